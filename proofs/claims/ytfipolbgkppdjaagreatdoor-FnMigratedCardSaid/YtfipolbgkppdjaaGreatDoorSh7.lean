/- The evaluator and its soundness, part 7: a function of the program does what its native form tells. -/
import Derived.Test.YtfipolbgkppdjaaGreatDoorSh6
import Derived.ChangeArms
import Derived.SizedLaws
import Derived.Carry
import Derived.ChangeOld
import Derived.WideShapes
import Derived.OpenShut
import Derived.ChangeCalls
set_option linter.unusedVariables false
set_option linter.unusedSimpArgs false
namespace Go.Sh
open Go Go.RowKit

/-! ## Functions -/
def nioOf : List PTy → Nat
  | [] => 0
  | .io _ _ :: ps => nioOf ps + 1
  | .ioptr _ :: ps => nioOf ps + 1
  | .val _ _ :: ps => nioOf ps
  | .cptr _ :: ps => nioOf ps
  | .fn _ _ :: ps => nioOf ps

def initSt (g : List (Option Nat)) (ps : List PTy) (x : Tup (ps.map PTy.den)) : St :=
  { tmps := fun t => ((regroup g (initOf 0 ps x).1)[t]?).getD .undef, H := heapOf (initOf 0 ps x).2, wr := fun _ => true, nx := nioOf ps }

/-- rows that are kept from now on -/
def freezes (wr : Nat → Bool) : Heap → List LV → Heap
  | H, [] => H
  | H, .ref n :: r => match H n with
    | some (.vec E e _ _ xs) => if wr n then freezes wr (fun m => if m = n then some (.fro E e xs) else H m) r else freezes wr H r
    | _ => freezes wr H r
  | H, _ :: r => freezes wr H r

def valCells (H : Heap) : List RTy → List SV → List LV
  | .val _ _ :: rs, v :: vs => (v.cells.getD []) ++ valCells H rs vs
  | .row _ _ _ :: rs, _ :: vs => valCells H rs vs
  | .ptr _ :: rs, .lf (.ptr n 0) :: vs => (match H n with | some (.box cs) => cs | _ => []) ++ valCells H rs vs
  | _, _ => []

def boxCells (H : Heap) : Nat → List PTy → List LV
  | _, [] => []
  | k, .ioptr _ :: ps => (match H k with | some (.box cs) => cs | _ => []) ++ boxCells H (k + 1) ps
  | k, .io _ _ :: ps => boxCells H (k + 1) ps
  | k, .val _ _ :: ps => boxCells H k ps
  | k, .cptr _ :: ps => boxCells H k ps
  | k, .fn _ _ :: ps => boxCells H k ps

def valOf (H : Heap) (t : Ty) : Bool → SV → Option t.den
  | true, .agg cs => match t.take H (fun _ => false) false cs with
    | some (x, [], []) => some x
    | _ => none
  | false, .lf c => match t.take H (fun _ => false) false [c] with
    | some (x, [], []) => some x
    | _ => none
  | _, _ => none

def giveAll (H : Heap) (wr : Nat → Bool) : (rs : List RTy) → {l : List Type} → List SV → Tup l → Option (Tup (rs.map RTy.den ++ l) × List (Option Nat))
  | [], _, [], io => some (io, [])
  | .val agg t :: rs, _, v :: vs, io => match valOf H t agg v with
    | some x => match giveAll H wr rs vs io with
      | some (r, mv) => some (Tup.cons (a := t.den) x r, mv)
      | none => none
    | none => none
  | .row E e d :: rs, _, .lf c :: vs, io => match LT.of H wr (.own E e d) c with
    | some (x, m1) => match giveAll H wr rs vs io with
      | some (r, mv) => some (Tup.cons (a := List e.den) x r, m1 ++ mv)
      | none => none
    | none => none
  | .ptr t :: rs, _, .lf (.ptr n 0) :: vs, io => match H n with
    | some (.box cs) => if wr n then (match t.take H (fun _ => false) false cs with
      | some (x, [], []) => match giveAll H wr rs vs io with
        | some (r, mv) => some (Tup.cons (a := t.den) x r, some n :: mv)
        | none => none
      | _ => none) else none
    | _ => none
  | _, _, _, _ => none

def endAll (H : Heap) : Nat → (ps : List PTy) → Option (Tup (ioTys ps))
  | _, [] => some ()
  | k, .val _ _ :: ps => endAll H k ps
  | k, .cptr _ :: ps => endAll H k ps
  | k, .fn _ _ :: ps => endAll H k ps
  | k, .io E e :: ps => match H k with
    | some (.vec E' e' d _ xs) => if d || e.flat then (match asRows E e E' e' xs with
      | some xs => match endAll H (k + 1) ps with
        | some r => some (Tup.cons (a := List e.den) xs r)
        | none => none
      | none => none) else none
    | _ => none
  | k, .ioptr t :: ps => match H k with
    | some (.box cs) => match t.take H (fun _ => false) false cs with
      | some (x, [], []) => match endAll H (k + 1) ps with
        | some r => some (Tup.cons (a := t.den) x r)
        | none => none
      | _ => none
    | _ => none

def resVars (E : Env) (s : St) : List ResultVar → Option (List SV)
  | [] => some []
  | .tmp t :: rs => match resVars E s rs with
    | some vs => some (s.tmps t :: vs)
    | none => none
  | .cell x t :: rs => match loadSV E s.H t (s.tmps x) (fun v => some v) with
    | some v => match resVars E s rs with
      | some vs => some (v :: vs)
      | none => none
    | none => none

def outOf (E : Env) (s : St) (rs : List RTy) (ps : List PTy) (vs : List SV) : Option (Tup (rs.map RTy.den ++ ioTys ps)) :=
  let H1 := freezes (tk E s.wr) s.H (valCells s.H rs vs ++ boxCells s.H 0 ps)
  match endAll H1 0 ps with
  | some io => match giveAll H1 (tk E s.wr) rs vs io with
    | some (o, mv) => if distinct (names? mv) then some o else none
    | none => none
  | none => none

/-- how many parameters the leaves make -/
def argc : List (Option Nat) → Nat → Nat
  | [], n => n
  | none :: g, n + 1 => argc g n + 1
  | none :: _, 0 => 0
  | some k :: g, n => argc g (n - k) + 1
def ntOf (fn : Func) (n : Nat) : Nat := n + (fn.ntmps - n)

def plainRes : List RTy → Bool
  | [] => true
  | .val false _ :: r => plainRes r
  | .row _ _ _ :: r => plainRes r
  | .ptr _ :: r => plainRes r
  | _ => false
/-- are the leaves of structs plain? -/
def plainG : List (Option Nat) → List RTy → Bool
  | [], _ => true
  | none :: g, _ :: r => plainG g r
  | none :: _, [] => false
  | some n :: g, r => plainRes (r.take n) && plainG g (r.drop n)

noncomputable def den (E : Env) (fn : Func) (sig : Sig) (x : sig.args) : Option sig.outs :=
  match fn.body with
  | none => none
  | some c => evCode { E with nio := nioOf sig.params } (ntOf fn (argc sig.groups sig.params.length)) c 0 (initSt sig.groups sig.params x) fun e s => match e with
    | .exit _ => none
    | _ => match resVars { E with nio := nioOf sig.params } s fn.results.toList with
      | some vs => match ungroup sig.rgroups vs with
        | some vs => if plainG sig.rgroups sig.res then outOf { E with nio := nioOf sig.params } s sig.res sig.params vs else none
        | none => none
      | none => none

section
variable {cx cx' cx1 cx2 : Cx} {w w' : World} {G : Base} {M M' nx n' : Nat} {H H' Hm : Heap} {P : Program} {E : Env} {nt : Nat} {V : Nat → Value} {s s' s0 : St} {a a' : Act}

theorem init_len : ∀ {ps : List PTy} {nx : Nat} {x : Tup (ps.map PTy.den)}, (initOf nx ps x).2.length = nioOf ps ∧ (initOf nx ps x).1.length = ps.length
  | [], _, _ => ⟨rfl, rfl⟩
  | p :: ps, nx, x => by
    cases p <;> simp [initOf, nioOf, init_len (ps := ps)]

theorem caps_all : ∀ {ts : List Ty} {x : Tup (ts.map Ty.den)}, ∀ c ∈ initOf.caps ts x, ∃ t y, c = Cap.cptr t y
  | [], _, c, h => by simp [initOf.caps] at h
  | t :: ts, x, c, h => by
    rcases List.mem_cons.1 h with rfl | h
    · exact ⟨_, _, rfl⟩
    · exact caps_all c h

theorem pack_names [Laid] (agg : Bool) {t : Ty} (x : t.den) : (pack agg (t.sv x)).names = [] := by
  cases agg with
  | true => exact sv_names x
  | false =>
    unfold pack
    split
    · simp at *
    · rename_i c hc
      have := sv_names x
      rw [hc] at this
      simpa [SV.names] using this
    · rfl

theorem init_names [Laid] : ∀ {ps : List PTy} {nx : Nat} {x : Tup (ps.map PTy.den)}, (∀ v ∈ (initOf nx ps x).1, ∀ m ∈ v.names, m < nx + nioOf ps) ∧ ∀ o ∈ (initOf nx ps x).2, o.names = []
  | [], _, _ => by simp [initOf]
  | p :: ps, nx, x => by
    cases p with
    | val agg t =>
      obtain ⟨h1, h2⟩ := init_names (ps := ps) (nx := nx) (x := Tup.tl x)
      refine ⟨fun v hv m hm => ?_, h2⟩
      rcases List.mem_cons.1 hv with rfl | hv
      · rw [pack_names] at hm; cases hm
      · exact h1 v hv m hm
    | cptr t =>
      obtain ⟨h1, h2⟩ := init_names (ps := ps) (nx := nx) (x := Tup.tl x)
      refine ⟨fun v hv m hm => ?_, h2⟩
      rcases List.mem_cons.1 hv with rfl | hv
      · simp [SV.names, LV.names] at hm
      · exact h1 v hv m hm
    | fn f ts =>
      obtain ⟨h1, h2⟩ := init_names (ps := ps) (nx := nx) (x := Tup.tl x)
      refine ⟨fun v hv m hm => ?_, h2⟩
      rcases List.mem_cons.1 hv with rfl | hv
      · simp only [SV.names, LV.names] at hm
        obtain ⟨c, hc, hcm⟩ := List.mem_filterMap.1 hm
        obtain ⟨t, y, rfl⟩ := caps_all c hc
        cases hcm
      · exact h1 v hv m hm
    | io Et e =>
      obtain ⟨h1, h2⟩ := init_names (ps := ps) (nx := nx + 1) (x := Tup.tl x)
      refine ⟨fun v hv m hm => ?_, fun o ho => ?_⟩
      · simp only [nioOf]
        rcases List.mem_cons.1 hv with rfl | hv
        · simp [SV.names, LV.names] at hm; omega
        · have := h1 v hv m hm; omega
      · rcases List.mem_cons.1 ho with rfl | ho
        · rfl
        · exact h2 o ho
    | ioptr t =>
      obtain ⟨h1, h2⟩ := init_names (ps := ps) (nx := nx + 1) (x := Tup.tl x)
      refine ⟨fun v hv m hm => ?_, fun o ho => ?_⟩
      · simp only [nioOf]
        rcases List.mem_cons.1 hv with rfl | hv
        · simp [SV.names, LV.names] at hm; omega
        · have := h1 v hv m hm; omega
      · rcases List.mem_cons.1 ho with rfl | ho
        · exact sv_names _
        · exact h2 o ho

theorem regroup_len : ∀ {g : List (Option Nat)} {l : List SV}, (regroup g l).length = argc g l.length
  | [], _ => rfl
  | none :: g, [] => rfl
  | none :: g, s :: l => by simp [regroup, argc, regroup_len (g := g)]
  | some n :: g, l => by simp [regroup, argc, regroup_len (g := g)]
theorem regroup_names {k : Nat} : ∀ {g : List (Option Nat)} {l : List SV}, (∀ v ∈ l, ∀ m ∈ v.names, m < k) → ∀ v ∈ regroup g l, ∀ m ∈ v.names, m < k
  | [], _, h => h
  | none :: g, [], h => fun v hv => by simp [regroup] at hv
  | none :: g, s :: l, h => fun v hv => by
    simp only [regroup] at hv
    rcases List.mem_cons.1 hv with rfl | hv
    · exact h v (by simp)
    · exact regroup_names (fun v hv => h v (by simp [hv])) v hv
  | some n :: g, l, h => fun v hv => by
    simp only [regroup] at hv
    rcases List.mem_cons.1 hv with rfl | hv
    · intro m hm
      simp only [SV.names] at hm
      obtain ⟨c, hc, hm⟩ := List.mem_flatMap.1 hm
      obtain ⟨s, hs, rfl⟩ := List.mem_map.1 hc
      refine h s (List.mem_of_mem_take hs) m ?_
      cases s <;> simp [SV.leaf, LV.names] at hm ⊢
      exact hm
    · exact regroup_names (fun v hv => h v (List.mem_of_mem_drop hv)) v hv

theorem initSt_ok [Laid] {g : List (Option Nat)} {ps : List PTy} {x : Tup (ps.map PTy.den)} : StOk (initSt g ps x) := by
  obtain ⟨h1, h2⟩ := init_names (ps := ps) (nx := 0) (x := x)
  refine ⟨fun t m hm => ?_, fun n o hn => ?_, fun m hm => rfl⟩
  · simp only [initSt] at hm ⊢
    cases hv : (regroup g (initOf 0 ps x).1)[t]? with
    | none => rw [hv] at hm; simp [SV.names] at hm
    | some v => rw [hv] at hm; have := regroup_names (g := g) h1 v (List.mem_of_getElem? hv) m hm; omega
  · have hlt := (List.getElem?_eq_some_iff.1 hn).1
    rw [(init_len (ps := ps)).1] at hlt
    exact ⟨hlt, fun m hm => by rw [h2 o (List.mem_of_getElem? hn)] at hm; cases hm⟩

theorem freezes_is [Laid] {wr : Nat → Bool} (hwr : ∀ n, wr n = true → G.nio ≤ n) : ∀ {cs : List LV} {H : Heap} {cx : Cx}, RH G M H cx w → ∃ cx1, RH G M (freezes wr H cs) cx1 w ∧ Tr 0 0 cx w cx1 w
  | [], H, cx, h => ⟨cx, h, Tr.refl _ _ _⟩
  | c :: cs, H, cx, h => by
    cases c with
    | ref n =>
      simp only [freezes]
      split
      · rename_i Et e d ver xs hn
        split
        · rename_i hw
          obtain ⟨cx1, h1, h2, _⟩ := h.freeze hn (hwr n hw) 0
          obtain ⟨cx2, h3, h4⟩ := freezes_is hwr (cs := cs) h1
          exact ⟨cx2, h3, h2.trans h4 (Nat.le_refl _) (Nat.le_refl _)⟩
        · exact freezes_is hwr (cs := cs) h
      · exact freezes_is hwr (cs := cs) h
    | _ => exact freezes_is hwr (cs := cs) h

/-- what is stable already -/
theorem stable_is [Laid] (h : RH G M H cx w) : ∀ {t : Ty} {cs r : List LV} {x : t.den} {u : Upd} {vs : List Value}, t.take H (fun _ => false) false cs = some (x, r, u) → All2 (VL cx w) cs vs → ∃ v1 v2, vs = v1 ++ v2 ∧ Rd w cx.S t v1 x ∧ All2 (VL cx w) r v2
  | .int k, cs, r, x, u, vs, hg, hv => by
    cases cs with
    | nil => simp [Ty.take] at hg
    | cons c cs => cases vs with
      | nil => exact hv.elim
      | cons v vs =>
        cases c <;> simp [Ty.take] at hg
        obtain ⟨rfl, rfl, rfl, rfl⟩ := hg
        exact ⟨[v], vs, rfl, by rw [Rd, hv.1], hv.2⟩
  | .bool, cs, r, x, u, vs, hg, hv => by
    cases cs with
    | nil => simp [Ty.take] at hg
    | cons c cs => cases vs with
      | nil => exact hv.elim
      | cons v vs =>
        cases c <;> simp [Ty.take] at hg
        obtain ⟨rfl, rfl, rfl⟩ := hg
        exact ⟨[v], vs, rfl, by rw [Rd, hv.1], hv.2⟩
  | .str, cs, r, x, u, vs, hg, hv => by
    cases cs with
    | nil => simp [Ty.take] at hg
    | cons c cs => cases vs with
      | nil => exact hv.elim
      | cons v vs =>
        cases c <;> simp [Ty.take] at hg
        obtain ⟨rfl, rfl, rfl⟩ := hg
        exact ⟨[v], vs, rfl, by rw [Rd, hv.1], hv.2⟩
  | .pair a b, cs, r, x, u, vs, hg, hv => by
    simp only [Ty.take] at hg
    split at hg
    · rename_i y r1 u1 h1
      split at hg
      · rename_i z r2 u2 h2
        simp at hg; obtain ⟨rfl, rfl, rfl⟩ := hg
        obtain ⟨v1, v2, rfl, ha, hv2⟩ := stable_is h h1 hv
        obtain ⟨v3, v4, rfl, hb, hv4⟩ := stable_is h h2 hv2
        exact ⟨v1 ++ v3, v4, by simp, ⟨v1, v3, rfl, ha, hb⟩, hv4⟩
      · cases hg
    · cases hg
  | .slice Et e, cs, r, x, u, vs, hg, hv => by
    cases cs with
    | nil => simp [Ty.take] at hg
    | cons c cs => cases vs with
      | nil => exact hv.elim
      | cons v vs =>
        simp only [Ty.take] at hg
        split at hg
        · rename_i xs u1 h1
          simp at hg; obtain ⟨rfl, rfl, rfl⟩ := hg
          refine ⟨[v], vs, rfl, ?_, hv.2⟩
          have hv1 := hv.1
          cases c <;> simp only [LV.take] at h1 <;> try (cases h1; done)
          case nil =>
            simp at h1; obtain ⟨rfl, rfl⟩ := h1
            obtain ⟨A, rfl⟩ := hv1
            exact ⟨A, 0, rfl, Nat.le_refl _, fun i hi => by simp at hi⟩
          case sl E' e' ys =>
            simp only [Bool.false_eq_true, if_false] at h1
            split at h1
            · rename_i zs hz
              simp at h1; obtain ⟨rfl, rfl⟩ := h1
              obtain ⟨rfl, rfl, rfl⟩ := asRows_some hz
              exact hv1
            · cases h1
          case ref n =>
            split at h1
            · split at h1
              · simp at h1
              · cases h1
            · rename_i E' e' ys hn
              simp only [Bool.false_eq_true, if_false] at h1
              split at h1
              · rename_i zs hz
                simp at h1; obtain ⟨rfl, rfl⟩ := h1
                obtain ⟨rfl, rfl, rfl⟩ := asRows_some hz
                rw [hv1.1]; exact (h.ob n _ hn).2.2.2
              · cases h1
            · cases h1
          case dsl n ver i off E' e' ys =>
            split at h1
            · simp at h1
            · cases h1
          case sub n lo hi =>
            obtain ⟨q0, q1, q2, A, cap, A', e1, e2, rfl, e3, e4⟩ := hv1
            split at h1
            · simp at h1
            · rename_i E' e' ys hn
              simp only [Bool.false_eq_true, if_false] at h1
              split at h1
              · rename_i zs hz
                simp at h1; obtain ⟨rfl, rfl⟩ := h1
                obtain ⟨rfl, rfl, rfl⟩ := asRows_some hz
                obtain ⟨hlen, hes, _, hr⟩ := h.ob n _ hn
                rw [e1] at hr
                exact hr.part q0 q1 (by show hi ≤ (ys.length : Int); rw [← hlen]; exact q2) (by omega) (by rw [← hes]; exact e4)
              · cases h1
            · cases h1
        · cases hg

theorem stable_all [Laid] (h : RH G M H cx w) {t : Ty} {cs : List LV} {x : t.den} {u : Upd} {vs : List Value} (hg : t.take H (fun _ => false) false cs = some (x, [], u)) (hv : All2 (VL cx w) cs vs) : Rd w cx.S t vs x := by
  obtain ⟨v1, v2, rfl, hr, h2⟩ := stable_is h hg hv
  have : v2 = [] := by cases v2 with
    | nil => rfl
    | cons _ _ => exact h2.elim
  subst this; simpa using hr

theorem valOf_is [Laid] (h : RH G M H cx w) {t : Ty} {agg : Bool} {v : SV} {x : t.den} {u : Value} (ho : valOf H t agg v = some x) (hv : VR cx w v u) (hS : cx2.S = cx.S) : VP cx2 w agg (t.sv x) u := by
  unfold valOf at ho
  split at ho
  · rename_i cs
    split at ho
    · rename_i y hg
      simp at ho; subst ho
      obtain ⟨vs, e, hvs⟩ := hv
      have hr := stable_all h hg hvs
      rw [← hS] at hr
      exact ⟨vs, e, sv_sound hr⟩
    · cases ho
  · rename_i c
    split at ho
    · rename_i y hg
      simp at ho; subst ho
      have hr := stable_all h hg (vs := [u]) ⟨hv, trivial⟩
      rw [← hS] at hr
      have hs := sv_sound (cx := cx2) hr
      obtain ⟨c', hc'⟩ : ∃ c', t.sv y = [c'] := List.length_eq_one_iff.1 (by rw [hs.len]; rfl)
      unfold VP
      simp only [Bool.false_eq_true, if_false]
      refine ⟨c', hc', ?_⟩
      rw [hc'] at hs; exact hs.1
    · cases ho
  · cases ho

theorem giveAll_is [Laid] (h : RH G M H cx w) {wr : Nat → Bool} : ∀ {rs : List RTy} {l : List Type} {vs : List SV} {us : List Value} {io : Tup l} {o : Tup (rs.map RTy.den ++ l)} {mv : List (Option Nat)}, giveAll H wr rs vs io = some (o, mv) → All2 (VR cx w) vs us →
    ioOf rs o = io ∧ ∃ ros : List RO, All2 (RowOf H wr cx) mv ros ∧ ∀ (nx : Nat) (cx2 : Cx), cx2.S = cx.S → (∀ (j : Nat) (ro : RO), ros[j]? = some ro → cx2.μ (nx + j) = ro) →
      All2 (fun (t : Bool × List LV) u => VP cx2 w t.1 t.2 u) (resOf nx rs o).1 us ∧ (resOf nx rs o).2.length = ros.length ∧ ∀ (j : Nat) (b : Ob) (ro : RO), (resOf nx rs o).2[j]? = some b → ros[j]? = some ro → ObR cx2 w ro b
  | [], l, [], [], io, o, mv, hg, _ => by
    simp only [giveAll, Option.some.injEq, Prod.mk.injEq] at hg
    obtain ⟨rfl, rfl⟩ := hg
    exact ⟨rfl, [], trivial, fun nx cx2 _ _ => ⟨trivial, rfl, fun j b ro hj => by simp [resOf] at hj⟩⟩
  | [], l, _ :: _, _, io, o, mv, hg, _ => by simp [giveAll] at hg
  | .val agg t :: rs, l, [], _, io, o, mv, hg, _ => by simp [giveAll] at hg
  | .row E e d :: rs, l, [], _, io, o, mv, hg, _ => by simp [giveAll] at hg
  | .ptr t :: rs, l, [], _, io, o, mv, hg, _ => by simp [giveAll] at hg
  | .val agg t :: rs, l, v :: vs, u :: us, io, o, mv, hg, hv => by
    simp only [giveAll] at hg
    split at hg
    · rename_i x hx
      split at hg
      · rename_i r m hr
        simp only [Option.some.injEq, Prod.mk.injEq] at hg
        obtain ⟨rfl, rfl⟩ := hg
        obtain ⟨i1, ros, i2, i3⟩ := giveAll_is h hr hv.2
        refine ⟨by simp only [ioOf, Tup.tl_cons]; exact i1, ros, i2, fun nx cx2 hS hμ => ?_⟩
        obtain ⟨j1, j2, j3⟩ := i3 nx cx2 hS hμ
        simp only [resOf, Tup.hd_cons, Tup.tl_cons]
        exact ⟨⟨valOf_is h hx hv.1 hS, j1⟩, j2, j3⟩
      · cases hg
    · cases hg
  | .row Et e d :: rs, l, v :: vs, u :: us, io, o, mv, hg, hv => by
    cases v <;> simp only [giveAll] at hg <;> try (cases hg; done)
    rename_i c
    split at hg
    · rename_i x m1 hx
      split at hg
      · rename_i r m hr
        simp only [Option.some.injEq, Prod.mk.injEq] at hg
        obtain ⟨rfl, rfl⟩ := hg
        obtain ⟨r1, k1, k2⟩ := LT.of_is h hx hv.1
        obtain ⟨i1, ros, i2, i3⟩ := giveAll_is h hr hv.2
        refine ⟨by simp only [ioOf, Tup.tl_cons]; exact i1, r1 ++ ros, k1.append i2, fun nx cx2 hS hμ => ?_⟩
        obtain ⟨c1, c2, c3⟩ := k2 nx cx2 hS fun j ro hj => hμ j ro (by rw [List.getElem?_append_left (List.getElem?_eq_some_iff.1 hj).1]; exact hj)
        have hl1 : r1.length = 1 := by rw [← c2]; rfl
        obtain ⟨j1, j2, j3⟩ := i3 (nx + 1) cx2 hS fun j ro hj => by
          rw [Nat.add_assoc]; exact hμ _ ro (by rw [List.getElem?_append_right (by omega), hl1]; simpa using hj)
        simp only [resOf, Tup.hd_cons, Tup.tl_cons]
        refine ⟨⟨⟨_, rfl, c1⟩, j1⟩, by simp [hl1, j2, Nat.add_comm], fun j b ro hj hro => ?_⟩
        cases j with
        | zero =>
          rw [List.getElem?_append_left (by omega)] at hro
          exact c3 0 b ro (by simpa [LT.to] using hj) hro
        | succ j =>
          rw [List.getElem?_append_right (by omega), hl1] at hro
          exact j3 j b ro (by simpa using hj) (by simpa using hro)
      · cases hg
    · cases hg
  | .ptr t :: rs, l, v :: vs, u :: us, io, o, mv, hg, hv => by
    cases v <;> (try simp only [giveAll] at hg) <;> try (cases hg; done)
    rename_i c
    cases c <;> (try simp only [giveAll] at hg) <;> try (cases hg; done)
    rename_i n off
    cases off with
    | succ k => exact absurd hg (by simp [giveAll])
    | zero =>
    simp only [giveAll] at hg
    split at hg
    · rename_i cs hn
      split at hg
      · rename_i hw
        split at hg
        · rename_i x hx
          split at hg
          · rename_i r m hr
            simp only [Option.some.injEq, Prod.mk.injEq] at hg
            obtain ⟨rfl, rfl⟩ := hg
            obtain ⟨i1, ros, i2, i3⟩ := giveAll_is h hr hv.2
            obtain ⟨g, e1, e2⟩ := hv.1
            have hob := h.ob n _ hn
            obtain ⟨g', cur, T, f1, f2, f3, f4⟩ := hob
            refine ⟨by simp only [ioOf, Tup.tl_cons]; exact i1, cx.μ n :: ros, ⟨⟨rfl, hw, _, hn⟩, i2⟩, fun nx cx2 hS hμ => ?_⟩
            have h0 := hμ 0 (cx.μ n) rfl
            simp only [Nat.add_zero] at h0
            obtain ⟨j1, j2, j3⟩ := i3 (nx + 1) cx2 hS fun j ro hj => by
              rw [Nat.add_assoc, Nat.add_comm 1 j]; exact hμ (j + 1) ro (by simpa using hj)
            simp only [resOf, Tup.hd_cons, Tup.tl_cons]
            refine ⟨⟨⟨_, rfl, g, by rw [h0]; exact e1, e2⟩, j1⟩, by simp [j2], fun j b ro hj hro => ?_⟩
            cases j with
            | zero =>
              simp at hj hro; subst hj; subst hro
              have hr2 := stable_all h hx f4
              rw [← hS] at hr2
              exact ⟨g', cur, T, f1, f2, f3, sv_sound hr2⟩
            | succ j => exact j3 j b ro (by simpa using hj) (by simpa using hro)
          · cases hg
        · cases hg
      · cases hg
    · cases hg

theorem endAll_is [Laid] (h : RH G M H cx w) : ∀ {ps : List PTy} {k : Nat} {io : Tup (ioTys ps)}, endAll H k ps = some io → (endOf ps io).length = nioOf ps ∧ ∀ (j : Nat) (o : Ob), (endOf ps io)[j]? = some o → ∃ o', H (k + j) = some o' ∧ ∀ cx2 : Cx, cx2.S = cx.S → ObR cx2 w { cx.μ (k + j) with ver := 0 } o
  | [], k, io, hg => ⟨rfl, fun j o hj => by simp [endOf] at hj⟩
  | .val _ _ :: ps, k, io, hg => endAll_is h (ps := ps) hg
  | .cptr _ :: ps, k, io, hg => endAll_is h (ps := ps) hg
  | .fn _ _ :: ps, k, io, hg => endAll_is h (ps := ps) hg
  | .io Et e :: ps, k, io, hg => by
    simp only [endAll] at hg
    split at hg
    · rename_i E' e' d ver xs hk
      split at hg
      · rename_i hc
        split at hg
        · rename_i ys hy
          split at hg
          · rename_i r hr
            simp only [Option.some.injEq] at hg
            subst hg
            obtain ⟨i1, i2⟩ := endAll_is h hr
            obtain ⟨rfl, rfl, rfl⟩ := asRows_some hy
            simp only [endOf, Tup.hd_cons, Tup.tl_cons]
            refine ⟨by simp [i1, nioOf], fun j o hj => ?_⟩
            cases j with
            | zero =>
              simp at hj; subst hj
              obtain ⟨q1, q2, q3, q4⟩ := h.ob k _ hk
              refine ⟨_, hk, fun cx2 hS => ⟨rfl, q2, q3, ?_⟩⟩
              simp only [Bool.or_eq_true] at hc
              refine Row1.mono q4 (fun _ _ => rfl) fun c x bs _ hE => ?_
              rw [hS]
              rcases hc with rfl | hf
              · exact hE
              · unfold El at hE ⊢
                simp only [if_true]
                split at hE
                · exact hE
                · rw [hE.2]; exact hE.1.flat hf
            | succ j =>
              obtain ⟨o', h1, h2⟩ := i2 j o (by simpa using hj)
              rw [show k + (j + 1) = k + 1 + j by omega]
              exact ⟨o', h1, h2⟩
          · cases hg
        · cases hg
      · cases hg
    · cases hg
  | .ioptr t :: ps, k, io, hg => by
    simp only [endAll] at hg
    split at hg
    · rename_i cs hk
      split at hg
      · rename_i x hx
        split at hg
        · rename_i r hr
          simp only [Option.some.injEq] at hg
          subst hg
          obtain ⟨i1, i2⟩ := endAll_is h hr
          simp only [endOf, Tup.hd_cons, Tup.tl_cons]
          refine ⟨by simp [i1, nioOf], fun j o hj => ?_⟩
          cases j with
          | zero =>
            simp at hj; subst hj
            obtain ⟨g, cur, T, e1, e2, e3, e4⟩ := h.ob k _ hk
            exact ⟨_, hk, fun cx2 hS => ⟨g, cur, T, e1, e2, e3, sv_sound (by rw [hS]; exact stable_all h hx e4)⟩⟩
          | succ j =>
            obtain ⟨o', h1, h2⟩ := i2 j o (by simpa using hj)
            rw [show k + (j + 1) = k + 1 + j by omega]
            exact ⟨o', h1, h2⟩
        · cases hg
      · cases hg
    · cases hg

theorem load_pointer {t : TypeId} {x : SV} {v : Value} {K : SV → Option SV} {q : SV} (hv : VR cx w x v) (h : loadSV E H t x K = some q) : ∃ addr, v = .pointer (some addr) := by
  unfold loadSV at h
  split at h
  · cases h
  · split at h
    · obtain ⟨g, _, rfl⟩ := hv; exact ⟨_, rfl⟩
    · obtain ⟨g, c, _, _, _, rfl⟩ := hv; exact ⟨_, rfl⟩
    · obtain ⟨b, o, vs, rfl, _⟩ := hv; exact ⟨_, rfl⟩
    · cases h

theorem resVars_is [Laid] (hE : TabOk P E) (h : RH G M s.H cx w) (hv : ∀ t, VR cx w (s.tmps t) (a.eval (.tmp t))) : ∀ {rs : List ResultVar} {vs : List SV}, resVars E s rs = some vs → ∃ us, All2 (VR cx w) vs us ∧
    ∀ f : ResultVar → Sem Value, (∀ t, (f (.tmp t)).run P w = .ok (a.tmps.getD t undef) w) → (∀ x t addr v, a.tmps.getD x undef = .pointer (some addr) → (Instr.loadAt t (a.tmps.getD x undef)).run P w = .ok v w → (f (.cell x t)).run P w = .ok v w) → (rs.mapM f).run P w = .ok us w
  | [], vs, h => by simp [resVars] at h; subst h; exact ⟨[], trivial, fun f _ _ => by simp⟩
  | .tmp t :: rs, vs, h0 => by
    simp only [resVars] at h0
    split at h0
    · rename_i ws hw
      simp at h0; subst h0
      obtain ⟨us, h1, h2⟩ := resVars_is hE h hv hw
      exact ⟨a.tmps.getD t undef :: us, ⟨hv t, h1⟩, fun f hf hc => by simp only [List.mapM_cons, Sem.run_bind, hf, Result.andThen_ok, h2 f hf hc, Sem.run_pure]⟩
    · cases h0
  | .cell x t :: rs, vs, h0 => by
    simp only [resVars] at h0
    split at h0
    · rename_i v hl
      split at h0
      · rename_i ws hw
        simp at h0; subst h0
        obtain ⟨us, h1, h2⟩ := resVars_is hE h hv hw
        obtain ⟨addr, haddr⟩ := load_pointer (hv x) hl
        obtain ⟨sv, hK, u, hr, hu⟩ := loadSV_is hE h (fun _ _ hh => hh) (hv x) hl
        have hl2 : some sv = some v := (hK (fun v => some v)).symm.trans hl
        simp only [Option.some.injEq] at hl2
        subst hl2
        exact ⟨u :: us, ⟨hu, h1⟩, fun f hf hc => by simp only [List.mapM_cons, Sem.run_bind, hc x t addr u haddr hr, Result.andThen_ok, h2 f hf hc, Sem.run_pure]⟩
      · cases h0
    · cases h0

theorem asOne_is {l : List (Bool × List LV)} {us : List Value} (h : All2 (fun (t : Bool × List LV) u => VP cx w t.1 t.2 u) l us) : VR cx w (asOne l) (if h : us.toArray.size = 1 then us.toArray[0] else .tuple us.toArray) := by
  have hl := h.len
  cases l with
  | nil => cases us with
    | nil => exact ⟨[], rfl, trivial⟩
    | cons _ _ => exact h.elim
  | cons t l => cases us with
    | nil => exact h.elim
    | cons u us => cases l with
      | nil => cases us with
        | nil => exact VP.pack h.1
        | cons _ _ => exact h.2.elim
      | cons t2 l => cases us with
        | nil => exact h.2.elim
        | cons u2 us =>
          rw [dif_neg (by simp)]
          exact ⟨u :: u2 :: us, rfl, h⟩

theorem flat_vp : ∀ {l : List (Bool × List LV)} {us : List Value}, (∀ t ∈ l, t.1 = false) → All2 (fun (t : Bool × List LV) u => VP cx w t.1 t.2 u) l us → All2 (VL cx w) (l.flatMap (·.2)) us
  | [], [], _, _ => trivial
  | [], _ :: _, _, h => h.elim
  | _ :: _, [], _, h => h.elim
  | t :: l, u :: us, hp, h => by
    have h1 : VP cx w t.1 t.2 u := h.1
    rw [hp t (by simp)] at h1
    obtain ⟨c, hc, hv⟩ := h1
    rw [List.flatMap_cons, hc]
    exact ⟨hv, flat_vp (fun x hx => hp x (by simp [hx])) h.2⟩

def plainL (rs : List RTy) (l : List (Bool × List LV)) : Prop := l.length = rs.length ∧ ∀ (k : Nat) (r : RTy) (t : Bool × List LV), rs[k]? = some r → l[k]? = some t → (match r with | .val a _ => t.1 = a | .row _ _ _ => t.1 = false | .ptr _ => t.1 = false)
theorem plain_res : ∀ {rs : List RTy} {l : List Type} {o : Tup (rs.map RTy.den ++ l)} {nx : Nat}, plainL rs (resOf nx rs o).1
  | [], _, _, _ => ⟨rfl, fun k r t h => by simp at h⟩
  | .val a ty :: rs, _, o, nx => by
    obtain ⟨h1, h2⟩ := plain_res (rs := rs) (o := Tup.tl o) (nx := nx)
    refine ⟨by simp [resOf, h1], fun k r t hr ht => ?_⟩
    simp only [resOf] at ht
    cases k with
    | zero => simp at hr ht; subst hr; subst ht; rfl
    | succ k => exact h2 k r t (by simpa using hr) (by simpa using ht)
  | .row E e d :: rs, _, o, nx => by
    obtain ⟨h1, h2⟩ := plain_res (rs := rs) (o := Tup.tl o) (nx := nx + 1)
    refine ⟨by simp [resOf, h1], fun k r t hr ht => ?_⟩
    simp only [resOf] at ht
    cases k with
    | zero => simp at hr ht; subst hr; subst ht; rfl
    | succ k => exact h2 k r t (by simpa using hr) (by simpa using ht)
  | .ptr ty :: rs, _, o, nx => by
    obtain ⟨h1, h2⟩ := plain_res (rs := rs) (o := Tup.tl o) (nx := nx + 1)
    refine ⟨by simp [resOf, h1], fun k r t hr ht => ?_⟩
    simp only [resOf] at ht
    cases k with
    | zero => simp at hr ht; subst hr; subst ht; rfl
    | succ k => exact h2 k r t (by simpa using hr) (by simpa using ht)

theorem plainRes_all : ∀ {rs : List RTy}, plainRes rs = true → ∀ (k : Nat) (r : RTy), rs[k]? = some r → (match r with | .val a _ => a = false | .row _ _ _ => True | .ptr _ => True)
  | [], _, k, r, h => by simp at h
  | .val true _ :: rs, h, _, _, _ => by simp [plainRes] at h
  | .val false ty :: rs, h, k, r, hr => by
    cases k with
    | zero => simp at hr; subst hr; rfl
    | succ k => exact plainRes_all (rs := rs) (by simpa [plainRes] using h) k r (by simpa using hr)
  | .row E e d :: rs, h, k, r, hr => by
    cases k with
    | zero => simp at hr; subst hr; trivial
    | succ k => exact plainRes_all (rs := rs) (by simpa [plainRes] using h) k r (by simpa using hr)
  | .ptr ty :: rs, h, k, r, hr => by
    cases k with
    | zero => simp at hr; subst hr; trivial
    | succ k => exact plainRes_all (rs := rs) (by simpa [plainRes] using h) k r (by simpa using hr)

theorem ungroupR_is [Laid] : ∀ {g : List (Option Nat)} {rs : List RTy} {vs0 fs : List SV} {us0 : List Value}, ungroup g vs0 = some fs → plainG g rs = true → All2 (VR cx w) vs0 us0 →
    ∃ us, All2 (VR cx w) fs us ∧ ∀ (cx2 : Cx) (l : List (Bool × List LV)), plainL rs l → All2 (fun (t : Bool × List LV) u => VP cx2 w t.1 t.2 u) l us → All2 (fun (t : Bool × List LV) u => VP cx2 w t.1 t.2 u) (regroupR g l) us0
  | [], rs, vs0, fs, us0, h, _, hv => by simp only [ungroup, Option.some.injEq] at h; subst h; exact ⟨us0, hv, fun cx2 l _ hl => hl⟩
  | none :: g, rs, [], fs, us0, h, _, hv => by simp [ungroup] at h
  | none :: g, rs, s :: svs, fs, [], h, _, hv => hv.elim
  | none :: g, [], s :: svs, fs, v :: vals, h, hp, hv => by simp [plainG] at hp
  | none :: g, r :: rs, s :: svs, fs, v :: vals, h, hp, hv => by
    simp only [ungroup] at h
    split at h
    · rename_i q hq
      simp only [Option.some.injEq] at h; subst h
      obtain ⟨us, h1, h2⟩ := ungroupR_is (rs := rs) hq (by simpa [plainG] using hp) hv.2
      refine ⟨v :: us, ⟨hv.1, h1⟩, fun cx2 l hpl hl => ?_⟩
      cases l with
      | nil => exact hl.elim
      | cons t l => exact ⟨hl.1, h2 cx2 l ⟨by simpa using hpl.1, fun k r t hr ht => hpl.2 (k + 1) r t (by simpa using hr) (by simpa using ht)⟩ hl.2⟩
    · cases h
  | some n :: g, rs, [], fs, us0, h, _, hv => by simp [ungroup] at h
  | some n :: g, rs, s :: svs, fs, [], h, _, hv => hv.elim
  | some n :: g, rs, s :: svs, fs, v :: vals, h, hp, hv => by
    cases s <;> simp only [ungroup] at h <;> try (cases h; done)
    rename_i cs
    split at h
    · rename_i hn
      split at h
      · rename_i q hq
        simp only [Option.some.injEq] at h; subst h
        simp only [plainG, Bool.and_eq_true] at hp
        obtain ⟨us1, rfl, hus⟩ := hv.1
        obtain ⟨us, h1, h2⟩ := ungroupR_is (rs := rs.drop n) hq hp.2 hv.2
        refine ⟨us1 ++ us, (All2.lf hus).append h1, fun cx2 l hpl hl => ?_⟩
        have hul : us1.length = n := by rw [← hn, hus.len]
        have e1 : l = l.take n ++ l.drop n := (List.take_append_drop n l).symm
        have hll := hl.len
        rw [List.length_append] at hll
        rw [e1] at hl
        obtain ⟨v1, v2, e2, a1, a2⟩ := All2.split hl
        have hl1 := a1.len
        rw [List.length_take, Nat.min_eq_left (by omega)] at hl1
        obtain ⟨rfl, rfl⟩ := List.append_inj e2 (by omega)
        refine ⟨?_, h2 cx2 _ ⟨by simp [hpl.1], fun k r t hr ht => hpl.2 (n + k) r t (by simpa using hr) (by simpa using ht)⟩ a2⟩
        show VP cx2 w true _ _
        refine ⟨us1, rfl, flat_vp (fun t ht => ?_) a1⟩
        obtain ⟨k, hk⟩ := List.getElem?_of_mem ht
        have hk' := hk
        rw [List.getElem?_take] at hk
        split at hk
        · rename_i hkn
          have hkl := (List.getElem?_eq_some_iff.1 hk).1
          obtain ⟨r, hr⟩ : ∃ r, rs[k]? = some r := ⟨rs[k]'(by have := hpl.1; omega), List.getElem?_eq_getElem _⟩
          have p1 := hpl.2 k r t hr hk
          have p2 := plainRes_all hp.1 k r (by rw [List.getElem?_take, if_pos hkn]; exact hr)
          cases r with
          | val a ty => simp only at p1 p2; rw [p1, p2]
          | row _ _ _ => exact p1
          | ptr _ => exact p1
        · cases hk
      · cases h
    · cases h

/-- a body that does what F tells keeps the contract -/
theorem den_at [Laid] (hE : TabOk P E) (hΓ : EnvOk P E) (hmo : P.follows .mixedOrders = true) {f : FuncId} {fn : Func} (hf : P.funcs[f]? = some fn) {sig : Sig} {F : sig.args → Option sig.outs} {x : sig.args} (hden : ∀ out, F x = some out → den E fn sig x = some out) : ContractAt P f sig F x := by
  intro out w S lent cx vals hF hS h hv
  have hd := hden out hF
  unfold den at hd
  split at hd
  · cases hd
  · rename_i c hbody
    have hnio := (init_len (ps := sig.params) (nx := 0) (x := x)).1
    have hplen := (init_len (ps := sig.params) (nx := 0) (x := x)).2
    rw [hnio] at h ⊢
    let E' : Env := { E with nio := nioOf sig.params }
    have hE' : TabOk P E' := ⟨hE.ti, hE.eq⟩
    have hΓ' : EnvOk P E' := hΓ
    let G : Base := ⟨w, S, lent, nioOf sig.params⟩
    have hvl := hv.len
    refine calls_of_wp hf hbody ?_
    let a0 : Act := { tmps := vals.toArray ++ Array.replicate (fn.ntmps - vals.toArray.size) undef, defers := [] }
    have hrl : (regroup sig.groups (initOf 0 sig.params x).1).length = argc sig.groups sig.params.length := by rw [regroup_len, hplen]
    have hr0 : Rel G (fun n => (cx.μ n).v) (ntOf fn (argc sig.groups sig.params.length)) (initSt sig.groups sig.params x) a0 w := by
      refine ⟨⟨cx, h, fun t => ?_, fun _ _ => rfl⟩, rfl, ?_, Nat.le_refl _⟩
      · show VR cx w (((regroup sig.groups (initOf 0 sig.params x).1)[t]?).getD .undef) (a0.tmps.getD t undef)
        simp only [a0, Array.getD_eq_getD_getElem?]
        rcases Nat.lt_or_ge t vals.length with hlt | hge
        · rw [Array.getElem?_append_left (by simpa using hlt)]
          have h1 : (regroup sig.groups (initOf 0 sig.params x).1)[t]? = some ((regroup sig.groups (initOf 0 sig.params x).1)[t]'(by omega)) := List.getElem?_eq_getElem _
          have h2 : vals[t]? = some vals[t] := List.getElem?_eq_getElem _
          have := hv.get h1 h2
          rw [h1]; simpa [h2] using this
        · rw [Array.getElem?_append_right (by simpa using hge), List.getElem?_eq_none (by omega)]
          simp only [Option.getD_none, Array.getElem?_replicate]
          split <;> rfl
      · simp [a0, ntOf, ← hrl, hvl]
    refine evCode_is hE' hΓ' rfl hmo c hd initSt_ok hr0 fun e s' a' w' hk ho hr hK => ?_
    -- what is left at the end
    have fin : ∀ vs0 vs, resVars E' s' fn.results.toList = some vs0 → ungroup sig.rgroups vs0 = some vs → plainG sig.rgroups sig.res = true → outOf E' s' sig.res sig.params vs = some out → a'.defers = [] ∧ ∃ v, (results fn a'.tmps).run P w' = .ok v w' ∧ Final G sig cx (nioOf sig.params) out v w' := fun vs0 vs hvs hun hplain hout => by
      refine ⟨hr.defers, ?_⟩
      obtain ⟨cx0, h1, h2, hV⟩ := hr.ex
      obtain ⟨us0, hus0, hrun⟩ := resVars_is hE' h1 h2 hvs
      simp only [outOf] at hout
      have hwr : ∀ n, tk E' s'.wr n = true → G.nio ≤ n := fun n hn => by simp [tk] at hn; exact hn.2
      obtain ⟨cx1, f1, f2⟩ := freezes_is hwr (cs := valCells s'.H sig.res vs ++ boxCells s'.H 0 sig.params) h1
      have hus01 : All2 (VR cx1 w') vs0 us0 := hus0.mono fun v _ u hu => hu.tr f2 fun m _ hh => by omega
      split at hout
      · rename_i io hio
        split at hout
        · rename_i o mv hg
          split at hout
          · rename_i hdist
            simp only [Option.some.injEq] at hout
            subst hout
            obtain ⟨us, hus1, hback⟩ := ungroupR_is hun hplain hus01
            obtain ⟨g1, ros, g2, g3⟩ := giveAll_is f1 hg hus1
            obtain ⟨e1, e2⟩ := endAll_is f1 hio
            have hdm := distinct_spec hdist
            let cx2 : Cx := { S := cx1.S, μ := fun m => if m < nioOf sig.params then { cx1.μ m with ver := 0 } else match ros[m - nioOf sig.params]? with | some ro => ro | none => noRO }
            have μi : ∀ m, m < nioOf sig.params → cx2.μ m = { cx1.μ m with ver := 0 } := fun m hm => if_pos hm
            have μn : ∀ (j : Nat) (ro : RO), ros[j]? = some ro → cx2.μ (nioOf sig.params + j) = ro := fun j ro hj => by
              show (if _ then _ else _) = _
              rw [if_neg (by omega), Nat.add_sub_cancel_left, hj]
            have μz : ∀ m, nioOf sig.params ≤ m → ros[m - nioOf sig.params]? = none → cx2.μ m = noRO := fun m h1 h2 => by
              show (if _ then _ else _) = _
              rw [if_neg (by omega), h2]
            obtain ⟨k1, k2, k3⟩ := g3 (nioOf sig.params) cx2 rfl μn
            have hvv : ∀ n, n < nioOf sig.params → (cx1.μ n).v = (cx.μ n).v := fun n hn => by
              rw [(f2.μ n (by omega)).1]; exact hV n hn
            refine ⟨_, ?_, cx2, asOne_is (hback cx2 _ plain_res k1), ?_, fun k hk => by rw [μi k hk]; exact hvv k hk⟩
            · simp only [results, Array.mapM_eq_mapM_toList, Sem.run_bind, Sem.run_map]
              rw [hrun _ (fun t => by simp) fun x t addr v hx hl => by
                rw [hx] at hl
                simp only [hx, asAddr, Sem.run_bind, Sem.run_pure, Result.andThen_ok]
                simpa [Instr.loadAt, Instr.sureAddr] using hl]; simp
            · rw [g1]
              have ob1 : ∀ k, k < nioOf sig.params → heapOf (endOf sig.params io ++ (resOf (nioOf sig.params) sig.res o).2) k = (endOf sig.params io)[k]? := fun k hk => by
                simp only [heapOf]; rw [List.getElem?_append_left (by omega)]
              have ob2 : ∀ m, nioOf sig.params ≤ m → heapOf (endOf sig.params io ++ (resOf (nioOf sig.params) sig.res o).2) m = (resOf (nioOf sig.params) sig.res o).2[m - nioOf sig.params]? := fun m hm => by
                simp only [heapOf]; rw [List.getElem?_append_right (by omega), e1]
              have src : ∀ m o', heapOf (endOf sig.params io ++ (resOf (nioOf sig.params) sig.res o).2) m = some o' → ObR cx2 w' (cx2.μ m) o' ∧ m < nioOf sig.params + (resOf (nioOf sig.params) sig.res o).2.length ∧ ((cx2.μ m).foot = [] ∨ ∃ n q, freezes (tk E' s'.wr) s'.H (valCells s'.H sig.res vs ++ boxCells s'.H 0 sig.params) n = some q ∧ (cx2.μ m).foot = (cx1.μ n).foot ∧
                  ((m < nioOf sig.params ∧ n = m) ∨ (nioOf sig.params ≤ m ∧ mv[m - nioOf sig.params]? = some (some n) ∧ nioOf sig.params ≤ n))) := fun m o' hm => by
                rcases Nat.lt_or_ge m (nioOf sig.params) with hlt | hge
                · rw [ob1 m hlt] at hm
                  obtain ⟨q, hq, hob⟩ := e2 m o' hm
                  rw [Nat.zero_add] at hq hob
                  rw [μi m hlt]
                  exact ⟨hob cx2 rfl, by omega, .inr ⟨m, q, hq, rfl, .inl ⟨hlt, rfl⟩⟩⟩
                · rw [ob2 m hge] at hm
                  have hjl := (List.getElem?_eq_some_iff.1 hm).1
                  have hro : ros[m - nioOf sig.params]? = some (ros[m - nioOf sig.params]'(by omega)) := List.getElem?_eq_getElem _
                  have hμ := μn _ _ hro
                  rw [show nioOf sig.params + (m - nioOf sig.params) = m by omega] at hμ
                  rw [hμ]
                  refine ⟨k3 _ o' _ hm hro, by omega, ?_⟩
                  obtain ⟨q, hq, hrow⟩ := All2.at g2 hro
                  cases q with
                  | none => exact .inl hrow
                  | some n =>
                    obtain ⟨r1, r2, q', r3⟩ := hrow
                    exact .inr ⟨n, q', r3, r1, .inr ⟨hge, hq, hwr n r2⟩⟩
              refine ⟨fun m o' hm => (src m o' hm).1, fun m o' hm => (src m o' hm).2.1, fun m hm => ?_, fun m k o1 o2 hm hk hne b hb => ?_, fun m o' hm => ?_, fun m o' b hm hb => ?_, f1.ss, f1.sg, f1.os, f1.tape, f1.output, f1.size, f1.block, f1.laid⟩
              · rcases Nat.lt_or_ge m (nioOf sig.params) with hlt | hge
                · rw [ob1 m hlt, List.getElem?_eq_none_iff] at hm; omega
                · rw [ob2 m hge, List.getElem?_eq_none_iff] at hm
                  rw [μz m hge (List.getElem?_eq_none (by omega))]; rfl
              · obtain ⟨_, _, s1⟩ := src m o1 hm
                obtain ⟨_, _, s2⟩ := src k o2 hk
                rcases s1 with h0 | ⟨n1, q1, p1, p2, p3⟩
                · rw [h0] at hb; cases hb
                · rcases s2 with h0 | ⟨n2, q2, r1, r2, r3⟩
                  · rw [h0]; simp
                  · rw [p2] at hb; rw [r2]
                    refine f1.dj n1 n2 q1 q2 p1 r1 (fun heq => hne ?_) b hb
                    subst heq
                    rcases p3 with ⟨p3, p4⟩ | ⟨p3, p4, p5⟩ <;> rcases r3 with ⟨r3, r4⟩ | ⟨r3, r4, r5⟩
                    · rw [← p4, r4]
                    · omega
                    · omega
                    · have := names?_idx hdm p4 r4; omega
              · obtain ⟨_, _, s1⟩ := src m o' hm
                rcases s1 with h0 | ⟨n1, q1, p1, p2, p3⟩
                · rw [h0]; exact List.nodup_nil
                · rw [p2]; exact f1.nd n1 q1 p1
              · obtain ⟨_, _, s1⟩ := src m o' hm
                rcases s1 with h0 | ⟨n1, q1, p1, p2, p3⟩
                · rw [h0] at hb; cases hb
                · rw [p2] at hb
                  obtain ⟨m1, m2, m3⟩ := f1.mine n1 q1 b p1 hb
                  refine ⟨?_, m2, m3⟩
                  rcases p3 with ⟨p3, p4⟩ | ⟨p3, p4, p5⟩
                  · subst p4; exact m1
                  · rcases m1 with m1 | ⟨m1, _⟩
                    · exact .inl m1
                    · exact absurd (show n1 < nioOf sig.params from m1) (by omega)
          · cases hout
        · cases hout
      · cases hout
    cases e with
    | exit id => cases hK
    | normal =>
      simp only at hK
      split at hK
      · rename_i vs0 hvs
        split at hK
        · rename_i vs hun
          split at hK
          · rename_i hplain; exact fin vs0 vs hvs hun hplain hK
          · cases hK
        · cases hK
      · cases hK
    | ret =>
      simp only at hK
      split at hK
      · rename_i vs0 hvs
        split at hK
        · rename_i vs hun
          split at hK
          · rename_i hplain; exact fin vs0 vs hvs hun hplain hK
          · cases hK
        · cases hK
      · cases hK

/-- a function that does what F tells -/
theorem den_is [Laid] (hE : TabOk P E) (hΓ : EnvOk P E) (hmo : P.follows .mixedOrders = true) {f : FuncId} {fn : Func} (hf : P.funcs[f]? = some fn) (hn : (fn.name == "runtime.NumGoroutine") = false) (hb : fn.body.isNone = false) {sig : Sig} {F : sig.args → Option sig.outs} (hden : ∀ x, F x = den E fn sig x) : Contract P f sig F :=
  ⟨⟨fn, hf, hn, hb⟩, fun x => den_at hE hΓ hmo hf fun out h => by rw [← hden]; exact h⟩
end
end Go.Sh

namespace Go.Sh
open Go Go.RowKit

/-! ## From what a row reads to native values -/
/-- the fields of a struct as pairs -/
def fieldsOk (P : Program) (sh : TypeId → Ty → Bool) : List Field → Nat → Ty → Bool
  | [], _, _ => false
  | [f], off, ty => f.offset == off && P.cellsOf f.type == ty.size && sh f.type ty
  | f :: g :: fs, off, .pair a b => f.offset == off && P.cellsOf f.type == a.size && sh f.type a && fieldsOk P sh (g :: fs) (off + a.size) b
  | _ :: _ :: _, _, _ => false

def shapeOk (P : Program) : Nat → TypeId → Ty → Bool
  | 0, _, _ => false
  | n + 1, t, ty => match P.underlying t with
    | some (.int k) => ty == .int k
    | some .bool => ty == .bool
    | some .string => ty == .str
    | some (.slice e) => match ty with
      | .slice E ey => e == E && P.cellsOf e == ey.size && shapeOk P n e ey
      | _ => false
    | some (.struct fs) => P.cellsOf t == ty.size && fieldsOk P (shapeOk P n) fs.toList 0 ty
    | _ => false

/-- what is known of what came in -/
def Ty.ok (P : Program) : (t : Ty) → t.den → Prop
  | .int k, x => (Lit.int k x).wf = true
  | .bool, _ => True
  | .str, s => s.size ≤ reachBytes
  | .pair a b, x => a.ok P x.1 ∧ b.ok P x.2
  | .slice E e, xs => xs.length * P.bytesOf E ≤ reachBytes ∧ xs.length ≤ maxLen ∧ ∀ x ∈ xs, e.ok P x

/-- how much it is -/
def Ty.bulk : (t : Ty) → t.den → Nat
  | .int _, _ => 1
  | .bool, _ => 1
  | .str, s => s.size + 1
  | .pair a b, x => a.bulk x.1 + b.bulk x.2
  | .slice _ e, xs => (xs.map e.bulk).sum + 1

/-- a measure of readings -/
structure Bulky {H : Type} (B : DataW H → Nat) (Bs : List (DataW H) → Nat) : Prop where
  str : ∀ bytes, bytes.length + 1 ≤ B (.lit (.string bytes))
  int : ∀ k n, 1 ≤ B (.lit (.int k n))
  bool : ∀ b, 1 ≤ B (.lit (.bool b))
  nil : 1 ≤ B .nil
  slice : ∀ e s, Bs e + 1 ≤ B (.slice e s)
  agg : ∀ ps, Bs ps ≤ B (.agg ps)
  cons : ∀ d r, B d + Bs r ≤ Bs (d :: r)

section
variable {H : Type} {enc : TypeId × Value → H} {P : Program} {w : World} {spare : Nat → Bool} {held : Bool} {B : DataW H → Nat} {Bs : List (DataW H) → Nat}

theorem mem_weightsAll {e : TypeId} : ∀ {l : List (DataW H)} {d : DataW H}, d ∈ l → ∀ n ∈ d.weights P e, n ∈ DataW.weightsAll P e l
  | d0 :: l, d, hd, n, hn => by
    simp only [DataW.weightsAll, List.mem_append]
    rcases List.mem_cons.1 hd with rfl | hd
    · exact .inl hn
    · exact .inr (mem_weightsAll hd n hn)

theorem bulk_sum (hB : Bulky B Bs) {e : Ty} : ∀ {xs : List e.den} {ds : List (DataW H)}, xs.length = ds.length → (∀ (i : Nat) (x : e.den) (d : DataW H), xs[i]? = some x → ds[i]? = some d → e.bulk x ≤ B d) → (xs.map e.bulk).sum ≤ Bs ds
  | [], ds, _, _ => by simp
  | x :: xs, [], h, _ => by simp at h
  | x :: xs, d :: ds, h, hh => by
    have h1 := hh 0 x d rfl rfl
    have h2 := bulk_sum hB (xs := xs) (ds := ds) (by simpa using h) fun i x d hx hd => hh (i + 1) x d (by simpa using hx) (by simpa using hd)
    have := hB.cons d ds
    simp only [List.map_cons, List.sum_cons]; omega

/-- a field's weights are the struct's -/
theorem open_rd [Laid] (hB : Bulky B Bs) : ∀ (n fuel : Nat) (t : TypeId) (ty : Ty) (cs : List Value) (y : DataW H × List MemPlace), shapeOk P n t ty = true → DataW.trod enc P w 0 spare held fuel t cs = some y → (∀ k ∈ y.1.weights P t, k ≤ reachBytes) →
    ∃ x : ty.den, Rd w (fun b => b < w.heap.size) ty cs x ∧ ty.ok P x ∧ ty.bulk x ≤ B y.1
  | 0, _, _, _, _, _, h, _, _ => by simp [shapeOk] at h
  | n + 1, fuel, t, ty, cs, y, h, ht, hw => by
    simp only [shapeOk] at h
    split at h
    · rename_i k hu
      simp at h; subst h
      obtain ⟨q, rfl, rfl, hwf⟩ := DataW.trod_int hu ht
      exact ⟨q, rfl, hwf, hB.int k q⟩
    · rename_i hu
      simp at h; subst h
      obtain ⟨q, rfl, rfl⟩ := DataW.trod_bool hu ht
      exact ⟨q, rfl, trivial, hB.bool q⟩
    · rename_i hu
      simp at h; subst h
      obtain ⟨q, rfl, rfl, hl⟩ := DataW.trod_string hu ht
      refine ⟨q, rfl, ?_, ?_⟩
      · have := hw q.data.toList.length (by simp [DataW.weights])
        exact this
      · have := hB.str q.data.toList
        exact this
    · rename_i e hu
      split at h
      · rename_i E ey
        simp only [Bool.and_eq_true, beq_iff_eq] at h
        obtain ⟨⟨rfl, hsz⟩, hsh⟩ := h
        rcases DataW.trod_slice hu ht with ⟨rfl, rfl⟩ | ⟨a, len, cap, elems, rest, m, hm, rfl, rfl, hb, hl, hmx, hlen, hel, hsp, hns⟩
        · exact ⟨[], ⟨none, 0, rfl, Nat.le_refl _, fun i hi => by simp at hi⟩, ⟨by simp, Nat.zero_le _, fun x hx => by cases hx⟩, hB.nil⟩
        · simp only [DataW.weights, hu] at hw
          have hw0 := hw _ (List.mem_cons_self ..)
          have hwE : ∀ d ∈ elems.map (·.1), ∀ k ∈ d.weights P e, k ≤ reachBytes := fun d hd k hk => hw k (List.mem_cons_of_mem _ (List.mem_append_left _ (mem_weightsAll hd k hk)))
          have hpos := ey.size_pos
          have cells : ∀ i (hi : i < len), ∃ ci, w.cells? 0 (a.add (i * P.cellsOf e)) (P.cellsOf e) = some ci ∧ DataW.trod enc P w 0 spare held m e ci = some (elems[i]'(by omega)) := fun i hi => by
            have h1 := hel i hi
            have hy : elems[i]? = some (elems[i]'(by omega)) := List.getElem?_eq_getElem _
            rw [hy, Option.bind_eq_some_iff] at h1
            exact h1
          have hspot : 0 < len → a.spot = none := fun h0 => by
            obtain ⟨ci, hc, _⟩ := cells 0 h0
            obtain ⟨_, hcl, hcell⟩ := World.cells?_some hc
            have h0 := hcell 0 (by rw [hsz]; exact hpos)
            have hc0 : ci[0]? = some (ci[0]'(by rw [hcl, hsz]; exact hpos)) := List.getElem?_eq_getElem _
            rw [hc0] at h0
            have := World.cell?_spot h0
            simpa [Addr.add] using this
          have each : ∀ i : Fin len, ∃ x : ey.den, ∃ (y : DataW H × List MemPlace) (ci : List Value), elems[i.1]? = some y ∧ Rd w (fun b => b < w.heap.size) ey ci x ∧ ey.ok P x ∧ ey.bulk x ≤ B y.1 ∧ a.spot = none ∧ a.block < w.heap.size ∧ ∀ j u, ci[j]? = some u → w.cell? ⟨a.block, a.off + i.1 * ey.size + j, none⟩ = some u := fun i => by
            obtain ⟨ci, hc, hd⟩ := cells i.1 i.2
            obtain ⟨x, r1, r2, r3⟩ := open_rd hB n m e ey ci _ hsh hd (hwE _ (List.mem_map.2 ⟨_, List.getElem_mem _, rfl⟩))
            obtain ⟨_, hcl, hcell⟩ := World.cells?_some hc
            have hsp0 := hspot (Nat.lt_of_le_of_lt (Nat.zero_le _) i.2)
            clear cells hspot hel hsp hns hb ht
            obtain ⟨b, o, sp⟩ := a
            simp only at hsp0; subst hsp0
            have hadd : ∀ k l, ((⟨b, o, none⟩ : Addr).add k).add l = ⟨b, o + k + l, none⟩ := fun k l => by
              unfold Addr.add
              by_cases h1 : k = 0 <;> by_cases h2 : l = 0 <;> simp [h1, h2]
            have h0 := hcell 0 (by rw [hsz]; exact hpos)
            have hc0 : ci[0]? = some (ci[0]'(by rw [hcl, hsz]; exact hpos)) := List.getElem?_eq_getElem _
            rw [hc0, hadd] at h0
            refine ⟨x, _, ci, List.getElem?_eq_getElem _, r1, r2, r3, rfl, ?_, fun j u hu => ?_⟩
            · simp only [World.cell?] at h0
              rcases Nat.lt_or_ge b w.heap.size with hlt | hge
              · exact hlt
              · rw [Array.getElem?_eq_none hge] at h0; cases h0
            · have hj : j < ci.length := (List.getElem?_eq_some_iff.1 hu).1
              have := hcell j (by rw [← hcl]; exact hj)
              rw [hadd, hsz, hu] at this; exact this
          let xs : List ey.den := List.ofFn fun i : Fin len => Classical.choose (each i)
          have hxl : xs.length = len := List.length_ofFn
          have hx : ∀ i (hi : i < len), xs[i]'(by omega) = Classical.choose (each ⟨i, hi⟩) := fun i hi => List.getElem_ofFn _
          have spec : ∀ i (hi : i < len), ∃ (y : DataW H × List MemPlace) (ci : List Value), elems[i]? = some y ∧ Rd w (fun b => b < w.heap.size) ey ci (xs[i]'(by omega)) ∧ ey.ok P (xs[i]'(by omega)) ∧ ey.bulk (xs[i]'(by omega)) ≤ B y.1 ∧ a.spot = none ∧ a.block < w.heap.size ∧ ∀ j u, ci[j]? = some u → w.cell? ⟨a.block, a.off + i * ey.size + j, none⟩ = some u := fun i hi => by
            rw [hx i hi]; exact Classical.choose_spec (each ⟨i, hi⟩)
          refine ⟨xs, ⟨some a, cap, by rw [hxl], by rw [hxl]; exact hl, fun i hi => ?_⟩, ⟨?_, ?_, fun x hxm => ?_⟩, ?_⟩
          · rw [hxl] at hi
            obtain ⟨y, ci, _, r1, _, _, hspot, hblk, hcell⟩ := spec i hi
            obtain ⟨b, o, sp⟩ := a
            simp only at hspot; subst hspot
            exact ⟨b, o, ci, rfl, hblk, hcell, r1⟩
          · rw [hxl]
            have : len * P.bytesOf e ≤ ((elems.map (·.1)).length + (rest.map (·.1)).length) * P.bytesOf e := Nat.mul_le_mul_right _ (by simp; omega)
            exact Nat.le_trans this hw0
          · rw [hxl]; omega
          · obtain ⟨i, hi, rfl⟩ := List.getElem_of_mem hxm
            obtain ⟨_, _, _, _, r2, _⟩ := spec i (by omega)
            exact r2
          · have h1 : (xs.map ey.bulk).sum ≤ Bs (elems.map (·.1)) := bulk_sum hB (by simp [hxl, hlen]) fun i x d hxi hd => by
              have hi : i < len := by rw [← hxl]; exact (List.getElem?_eq_some_iff.1 hxi).1
              obtain ⟨y, _, hy, _, _, r3, _⟩ := spec i hi
              have hxe : xs[i]? = some (xs[i]'(by omega)) := List.getElem?_eq_getElem _
              rw [hxe] at hxi
              simp only [Option.some.injEq] at hxi
              rw [List.getElem?_map, hy] at hd
              simp only [Option.map_some, Option.some.injEq] at hd
              rw [← hxi, ← hd]; exact r3
            have h2 := hB.slice (elems.map (·.1)) (rest.map (·.1))
            simp only [Ty.bulk]; omega
      · cases h
    · rename_i fs hu
      simp only [Bool.and_eq_true, beq_iff_eq] at h
      obtain ⟨hsz, hfs⟩ := h
      obtain ⟨xs, m, rfl, rfl, hcl, hxl, hel⟩ := DataW.trod_struct hu ht
      have hw' : ∀ k ∈ DataW.weightsEach P (fs.toList.map (·.type)) (xs.map (·.1)), k ≤ reachBytes := by simpa [DataW.weights, hu] using hw
      -- the fields, one behind another
      have go : ∀ (l : List Field) (i off : Nat) (ty : Ty), fs.toList.drop i = l → fieldsOk P (shapeOk P n) l off ty = true → (∀ k ∈ DataW.weightsEach P (l.map (·.type)) ((xs.drop i).map (·.1)), k ≤ reachBytes) → off + ty.size = cs.length →
          ∃ x : ty.den, Rd w (fun b => b < w.heap.size) ty (cs.drop off) x ∧ ty.ok P x ∧ ty.bulk x ≤ Bs ((xs.drop i).map (·.1)) := by
        intro l
        induction l with
        | nil => intro i off ty _ h; simp [fieldsOk] at h
        | cons f l ih =>
          intro i off ty hl hf hwl hoff
          have hfi : fs[i]? = some f := by
            have := congrArg (·[0]?) hl
            have h2 : fs.toList[i]? = some f := by simpa using this
            simpa using h2
          have hil : i < xs.length := by rw [hxl]; exact (Array.getElem?_eq_some_iff.1 hfi).1
          have hd := hel i f hfi
          rw [List.getElem?_eq_getElem hil] at hd
          have hdrop : xs.drop i = xs[i] :: xs.drop (i + 1) := (List.drop_eq_getElem_cons hil)
          rw [hdrop] at hwl ⊢
          simp only [List.map_cons, DataW.weightsEach, List.mem_append] at hwl
          have hcons := hB.cons xs[i].1 ((xs.drop (i + 1)).map (·.1))
          cases l with
          | nil =>
            simp only [fieldsOk, Bool.and_eq_true, beq_iff_eq] at hf
            obtain ⟨⟨rfl, hsz1⟩, hs1⟩ := hf
            rw [hsz1, List.take_of_length_le (by simp; omega)] at hd
            obtain ⟨x, r1, r2, r3⟩ := open_rd hB n m f.type ty _ _ hs1 hd fun k hk => hwl k (.inl hk)
            exact ⟨x, r1, r2, by simp only [List.map_cons]; omega⟩
          | cons g l =>
            cases ty <;> simp only [fieldsOk, Bool.false_eq_true] at hf
            rename_i a b
            simp only [Bool.and_eq_true, beq_iff_eq] at hf
            obtain ⟨⟨⟨rfl, hsz1⟩, hs1⟩, hf⟩ := hf
            simp only [Ty.size] at hoff
            obtain ⟨x, r1, r2, r3⟩ := open_rd hB n m f.type a _ _ hs1 hd fun k hk => hwl k (.inl hk)
            obtain ⟨x2, q1, q2, q3⟩ := ih (i + 1) (f.offset + a.size) b (by
              have := congrArg List.tail hl
              simpa [List.tail_drop] using this) hf (fun k hk => hwl k (.inr hk)) (by omega)
            refine ⟨(x, x2), ⟨(cs.drop f.offset).take a.size, cs.drop (f.offset + a.size), ?_, by rw [← hsz1]; exact r1, q1⟩, ⟨r2, q2⟩, by simp only [Ty.bulk, List.map_cons]; omega⟩
            rw [← List.drop_drop]; exact (List.take_append_drop _ _).symm
      obtain ⟨x, r1, r2, r3⟩ := go fs.toList 0 0 ty rfl hfs (by simpa using hw') (by rw [hcl, hsz]; omega)
      exact ⟨x, by simpa using r1, r2, Nat.le_trans (by simpa using r3) (hB.agg (xs.map (·.1)))⟩
    · cases h
end
end Go.Sh

namespace Go.Sh
open Go Go.RowKit

def isStruct (P : Program) (t : TypeId) : Bool := match P.underlying t with | some (.struct _) => true | _ => false

def argsShape (P : Program) (N : Nat) : List TypeId → List PTy → Bool
  | [], [] => true
  | t :: ts, .val agg ty :: ps => shapeOk P N t ty && agg == isStruct P t && argsShape P N ts ps
  | _, _ => false

def argsOk (P : Program) : (ps : List PTy) → Tup (ps.map PTy.den) → Prop
  | [], _ => True
  | .val _ ty :: ps, a => ty.ok P (Tup.hd (a := ty.den) a) ∧ argsOk P ps (Tup.tl a)
  | .cptr _ :: _, _ => False
  | .fn _ _ :: _, _ => False
  | .io _ _ :: _, _ => False
  | .ioptr _ :: _, _ => False

def argsBulk : (ps : List PTy) → Tup (ps.map PTy.den) → Nat
  | [], _ => 0
  | .val _ ty :: ps, a => ty.bulk (Tup.hd (a := ty.den) a) + argsBulk ps (Tup.tl a)
  | .cptr _ :: ps, a => argsBulk ps (Tup.tl a)
  | .fn _ _ :: ps, a => argsBulk ps (Tup.tl a)
  | .io _ _ :: ps, a => argsBulk ps (Tup.tl a)
  | .ioptr _ :: ps, a => argsBulk ps (Tup.tl a)

section
variable {H : Type} {enc : TypeId × Value → H} {P : Program} {W : World} {spare : Nat → Bool} {held : Bool} {B : DataW H → Nat} {Bs : List (DataW H) → Nat}

def cxOf (W : World) : Cx := ⟨fun b => b < W.heap.size, fun _ => noRO⟩

theorem arg_cells [Laid] {N : Nat} {t : TypeId} {ty : Ty} {v : Value} {r : Reach} {base : Nat} (hsh : shapeOk P N t ty = true) (hval : Value.okWide P W r base t v) {x : ty.den} (hrd : Rd W (fun b => b < W.heap.size) ty v.cells.toList x) : VR (cxOf W) W (pack (isStruct P t) (ty.sv x)) v := by
  have hs := sv_sound (cx := cxOf W) hrd
  cases N with
  | zero => simp [shapeOk] at hsh
  | succ N =>
    have one : ∀ {v : Value}, v.cells.toList = [v] → isStruct P t = false → All2 (VL (cxOf W) W) (ty.sv x) v.cells.toList → VR (cxOf W) W (pack (isStruct P t) (ty.sv x)) v := fun {v} hc hst hs => by
      rw [hst]
      rw [hc] at hs
      cases hsv : ty.sv x with
      | nil => rw [hsv] at hs; exact hs.elim
      | cons c cs => cases cs with
        | nil => rw [hsv] at hs; exact hs.1
        | cons _ _ => rw [hsv] at hs; exact hs.2.elim
    simp only [shapeOk] at hsh
    split at hsh
    · rename_i k hu
      obtain ⟨n, rfl⟩ := WideShapes.okWide_int hu hval
      exact one rfl (by simp [isStruct, hu]) hs
    · rename_i hu
      obtain ⟨n, rfl⟩ := WideShapes.okWide_bool hu hval
      exact one rfl (by simp [isStruct, hu]) hs
    · rename_i hu
      obtain ⟨n, rfl⟩ := WideShapes.okWide_string hu hval
      exact one rfl (by simp [isStruct, hu]) hs
    · rename_i e hu
      obtain ⟨A, l, c, rfl⟩ := WideShapes.okWide_slice hu hval
      exact one rfl (by simp [isStruct, hu]) hs
    · rename_i fs hu
      obtain ⟨cs, rfl, _⟩ := WideShapes.okWide_struct hu hval
      rw [show isStruct P t = true by simp [isStruct, hu]]
      exact ⟨cs.toList, by simp, by simpa [Value.cells] using hs⟩
    · cases hsh

theorem open_args [Laid] (hB : Bulky B Bs) {N : Nat} {r : Reach} {base nx : Nat} : ∀ {ts : List TypeId} {ps : List PTy} {vs : List Value} {ds : List (DataW H)} {q : List MemPlace}, argsShape P N ts ps = true → DataW.TrodAll enc P W 0 spare held ts vs ds q →
    (∀ (j : Nat) t v, ts[j]? = some t → vs[j]? = some v → Value.okWide P W r base t v) → (∀ k ∈ DataW.weightsEach P ts ds, k ≤ reachBytes) →
    ∃ a : Tup (ps.map PTy.den), All2 (VR (cxOf W) W) (initOf nx ps a).1 vs ∧ (initOf nx ps a).2 = [] ∧ argsOk P ps a ∧ argsBulk ps a ≤ Bs ds
  | [], [], [], [], q, _, _, _, _ => ⟨(), trivial, rfl, trivial, Nat.zero_le _⟩
  | [], [], _ :: _, _, q, _, ht, _, _ => ht.elim
  | [], [], [], _ :: _, q, _, ht, _, _ => ht.elim
  | [], _ :: _, _, _, q, hs, _, _, _ => by simp [argsShape] at hs
  | t :: ts, ps, [], _, q, _, ht, _, _ => by cases ht
  | t :: ts, ps, _ :: _, [], q, _, ht, _, _ => by cases ht
  | t :: ts, ps, v :: vs, d :: ds, q, hs, ht, hval, hw => by
    cases ps with
    | nil => simp [argsShape] at hs
    | cons p ps =>
      cases p <;> simp only [argsShape, Bool.false_eq_true] at hs
      rename_i agg ty
      simp only [Bool.and_eq_true, beq_iff_eq] at hs
      obtain ⟨⟨hsh, rfl⟩, hs⟩ := hs
      obtain ⟨q1, q2, ⟨fuel, h1⟩, h2, rfl⟩ := ht
      simp only [DataW.weightsEach, List.mem_append] at hw
      obtain ⟨x, r1, r2, r3⟩ := open_rd hB N fuel t ty _ _ hsh h1 fun k hk => hw k (.inl hk)
      obtain ⟨a, i1, i2, i3, i4⟩ := open_args hB (nx := nx) hs h2 (fun j t v hj hv => hval (j + 1) t v (by simpa using hj) (by simpa using hv)) fun k hk => hw k (.inr hk)
      refine ⟨Tup.cons (a := ty.den) x a, ?_, ?_, ?_, ?_⟩
      · simp only [initOf, Tup.hd_cons, Tup.tl_cons]
        exact ⟨arg_cells hsh (hval 0 t v rfl rfl) r1, i1⟩
      · simp only [initOf, Tup.hd_cons, Tup.tl_cons]; exact i2
      · simp only [argsOk, Tup.hd_cons, Tup.tl_cons]; exact ⟨r2, i3⟩
      · simp only [argsBulk, Tup.hd_cons, Tup.tl_cons]
        have h5 := hB.cons d ds
        have h6 : ty.bulk x ≤ B d := r3
        omega

/-- the arguments read as they did -/
theorem keep_args (hl : laidOutB P = true) {W' : World} (hb : Below W.heap.size W W') : ∀ {ts : List TypeId} {vs : List Value} {ds : List (DataW H)} {q : List MemPlace}, (ts.all fun t => P.readableRec t && decide (t < P.types.size)) = true →
    DataW.TrodAll enc P W 0 (fun _ => true) true ts vs ds q → (∀ x ∈ q, x.block < W.heap.size) → DataW.TrodAll enc P W' 0 (fun b => decide (b < W.heap.size)) true ts vs ds q
  | [], [], [], q, _, ht, _ => ht
  | [], _ :: _, _, q, _, ht, _ => ht.elim
  | [], [], _ :: _, q, _, ht, _ => ht.elim
  | _ :: _, [], _, q, _, ht, _ => by cases ht
  | _ :: _, _ :: _, [], q, _, ht, _ => by cases ht
  | t :: ts, v :: vs, d :: ds, q, hts, ht, hlt => by
    obtain ⟨q1, q2, h1, h2, rfl⟩ := ht
    simp only [List.all_cons, Bool.and_eq_true, decide_eq_true_eq] at hts
    exact ⟨q1, q2, Below.trod hl hts.1.1 hts.1.2 h1 hb fun x hx => hlt x (List.mem_append_left _ hx), keep_args hl hb hts.2 h2 fun x hx => hlt x (List.mem_append_right _ hx), rfl⟩

/-- a law's call -/
theorem law_calls [Laid] {f : FuncId} {ps : List PTy} {F : ({ params := ps, res := [.val false .bool] } : Sig).args → Option ({ params := ps, res := [.val false .bool] } : Sig).outs} (hc : Contract P f { params := ps, res := [.val false .bool] } F) {a : Tup (ps.map PTy.den)} (hio : (initOf 0 ps a).2 = []) {vals : List Value} (hv : All2 (VR (cxOf W) W) (initOf 0 ps a).1 vals)
    {out : ({ params := ps, res := [.val false .bool] } : Sig).outs} (hld : Laid.ok W) (hF : F a = some out) (ht : Tup.hd (a := Bool) out = true) : Calls P f vals.toArray W fun e W' => e = .returned (.bool true) ∧ Below W.heap.size W W' := by
  have hrh : RH ⟨W, (cxOf W).S, fun _ => False, (initOf 0 ps a).2.length⟩ (initOf 0 ps a).2.length (heapOf (initOf 0 ps a).2) (cxOf W) W := by
    rw [hio]
    refine ⟨fun n o hn => ?_, fun n o hn => ?_, fun n hn => rfl, fun n m o o' hn => ?_, fun n o hn => ?_, fun n o b hn => ?_, fun b hb => hb, fun b hb => .inl hb, rfl, rfl, rfl, Nat.le_refl _, fun _ _ _ => rfl, hld, fun _ _ h => h⟩ <;> simp [heapOf] at hn
  refine Calls.mono (hc.2 a out W (cxOf W).S (fun _ => False) (cxOf W) vals hF rfl hrh hv) fun e W' he => ?_
  cases e with
  | returned v =>
    obtain ⟨cx', hv', hr', _⟩ := he
    have hvb : v = .bool true := by
      have : VR cx' W' (.lf (.bool (Tup.hd (a := Bool) out))) v := hv'
      rw [ht] at this
      exact this
    exact ⟨by rw [hvb], hr'.os, hr'.tape, hr'.output, hr'.size, fun k hk => hr'.block k hk fun h => h⟩
  | panicked c => exact he.elim
  | outgrown => exact he.elim

theorem length_le_sizeOf : ∀ l : List UInt8, l.length ≤ SizeOf.sizeOf l
  | [] => by simp
  | a :: l => by have := length_le_sizeOf l; simp; omega

theorem bulky_sizeOf [Laid] : Bulky (H := H) SizeOf.sizeOf SizeOf.sizeOf where
  str bytes := by have := length_le_sizeOf bytes; simp; omega
  int k n := by simp
  bool b := by simp
  nil := by simp
  slice e s := by simp; omega
  agg ps := by simp
  cons d r := by simp

/-- the row: it returns true, the arguments read as they did -/
theorem law_row [Laid] {C : Checked} (hP : C.prog = P) {f : FuncId} {fn : Func} {ps : List PTy} {F : ({ params := ps, res := [.val false .bool] } : Sig).args → Option ({ params := ps, res := [.val false .bool] } : Sig).outs} (hc : Contract P f { params := ps, res := [.val false .bool] } F) {N : Nat} {s : ChangeSpec}
    (hsh : argsShape P N fn.params.toList ps = true) {tb : TypeId} (hres : fn.resultTypes.toList = [tb]) (htb : P.underlying tb = some .bool) (hl : laidOutB P = true) (hts : (fn.params.toList.all fun t => P.readableRec t && decide (t < P.types.size)) = true)
    (hvars : s.vars = []) (hs : ∀ ds : List (DataW H), ds.length = fn.params.toList.length → s.fn H ds = { results := [.lit (.bool true)], args := ds }) (hB : Bulky B Bs) {small : List (DataW H) → Prop} (hF : ∀ a ds, argsOk P ps a → argsBulk ps a ≤ Bs ds → small ds → ∃ out, F a = some out ∧ Tup.hd (a := Bool) out = true)
    {base : Nat} {args : Array Value} {ds gs : List (DataW H)} {before : List MemPlace} (hval : ∀ (j : Nat) t v, fn.params[j]? = some t → args[j]? = some v → Value.okWide P W .any base t v) (hW : DataW.Whole enc P fn.params.toList s.vars false W args.toList ds gs before)
    (hsz : (DataW.weightsEach P (fn.params.toList ++ s.plain.varTypes P) (ds ++ gs)).all (· ≤ reachBytes) = true) (hsm : small ds) (hld : Laid.ok W) :
    Calls P f args W fun e W' => ∃ v, e = .returned v ∧ s.post enc P fn false true false false W args v W' := by
  have hW' := hW
  obtain ⟨p, q, hA, hV, rfl, hfz, hnd⟩ := hW
  rw [hvars] at hV
  obtain ⟨rfl, rfl⟩ := ChangeShapes.trodVars_none hV
  have hlen := trodAll_length hA
  have hwt : ∀ k ∈ DataW.weightsEach P fn.params.toList ds, k ≤ reachBytes := fun k hk => by
    have hmem : ∀ (ts us : List TypeId) (ds : List (DataW H)), ds.length = ts.length → ∀ k ∈ DataW.weightsEach P ts ds, k ∈ DataW.weightsEach P (ts ++ us) (ds ++ []) := by
      intro ts
      induction ts with
      | nil => intro us ds h k hk; cases ds <;> simp [DataW.weightsEach] at hk
      | cons t ts ih =>
        intro us ds h k hk
        cases ds with
        | nil => simp at h
        | cons d ds =>
          simp only [DataW.weightsEach, List.cons_append, List.mem_append] at hk ⊢
          exact hk.imp id (ih us ds (by simpa using h) k)
    have := List.all_eq_true.1 hsz k (hmem _ _ _ hlen.2 k hk)
    simpa using this
  obtain ⟨a, i1, i2, i3, i4⟩ := open_args hB (nx := 0) hsh hA (fun j t v hj hv => hval j t v (by simpa using hj) (by simpa using hv)) hwt
  obtain ⟨out, h1, h2⟩ := hF a ds i3 i4 hsm
  have hargs : args = args.toList.toArray := by simp
  rw [hargs]
  refine Calls.mono (law_calls hc i2 i1 hld h1 h2) fun e W2 ⟨he, hbel⟩ => ?_
  refine ⟨_, he, ds, [], p ++ [], [], p, [], by rw [← hargs]; exact hW', ?_, ?_, ?_, hbel.frame _, fun h => by cases h⟩
  · have h1s : fn.resultTypes.size = 1 := by rw [← Array.length_toList, hres]; rfl
    rw [List.append_nil, hs ds hlen.2, hres, h1s]
    exact ChangeShapes.trodAll_mk1 (shut_bool htb true)
  · rw [List.append_nil, hs ds hlen.2, ← hargs]
    exact keep_args hl hbel hts hA fun x hx => hW'.lt x (by simp [hx])
  · rw [hvars, List.append_nil, hs ds hlen.2]; exact rfl
end
end Go.Sh

