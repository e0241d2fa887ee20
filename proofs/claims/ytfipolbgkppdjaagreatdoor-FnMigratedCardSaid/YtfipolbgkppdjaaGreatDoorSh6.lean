/- The evaluator and its soundness, part 6: a function of the program does what its native form tells. -/
import Derived.Test.YtfipolbgkppdjaaGreatDoorSh5
set_option linter.unusedVariables false
set_option linter.unusedSimpArgs false
namespace Go.Sh
open Go Go.RowKit

/-! ## Loops -/
section
variable {cx cx' cx1 cx2 : Cx} {w w' : World} {G : Base} {M M' nx n' : Nat} {H H' Hm : Heap} {P : Program} {E : Env} {nt : Nat} {V : Nat → Value} {s s' s0 : St} {a a' : Act} {R : Type} {r : R}

/-- a version in a value is no later than its row's -/
theorem VL.ver {c : LV} {v : Value} (hv : VL cx w c v) : ∀ p ∈ c.dsls, p.2 ≤ (cx.μ p.1).ver := fun p hp => by
  cases c <;> simp [LV.dsls] at hp
  subst hp; exact hv.1

theorem VLs.ver [Laid] : ∀ {cs : List LV} {vs : List Value}, All2 (VL cx w) cs vs → ∀ p ∈ cs.flatMap LV.dsls, p.2 ≤ (cx.μ p.1).ver
  | [], [], _, p, hp => by simp at hp
  | c :: cs, v :: vs, h, p, hp => by
    rw [List.flatMap_cons] at hp
    rcases List.mem_append.1 hp with hp | hp
    · exact h.1.ver p hp
    · exact VLs.ver h.2 p hp

theorem VR.ver [Laid] {c : SV} {v : Value} (hv : VR cx w c v) : ∀ p ∈ c.dsls, p.2 ≤ (cx.μ p.1).ver := fun p hp => by
  cases c with
  | top | undef => simp [SV.dsls] at hp
  | lf c => exact VL.ver hv p hp
  | agg cs => obtain ⟨vs, e, hv⟩ := hv; exact VLs.ver hv p hp
  | tup ts =>
    obtain ⟨vs, e, hv⟩ := hv
    obtain ⟨t, ht, hp⟩ := List.mem_flatMap.1 hp
    have : ∀ {ts : List (Bool × List LV)} {vs : List Value}, All2 (fun t u => VP cx w t.1 t.2 u) ts vs → t ∈ ts → p.2 ≤ (cx.μ p.1).ver := by
      intro ts
      induction ts with
      | nil => intro vs _ ht; cases ht
      | cons t0 ts ih => intro vs hv ht; cases vs with
        | nil => exact hv.elim
        | cons v vs =>
          rcases List.mem_cons.1 ht with rfl | ht
          · have hu := hv.1
            have hu : VP cx w t.1 t.2 v := hu
            unfold VP at hu
            split at hu
            · obtain ⟨vs, e, hu⟩ := hu; exact VLs.ver hu p hp
            · obtain ⟨c, hcc, hu⟩ := hu
              rw [hcc] at hp; exact VL.ver hu p (by simpa using hp)
          · exact ih hv.2 ht
    exact this hv ht

/-- what becomes of a leaf's row -/
def RowOf (H : Heap) (wr : Nat → Bool) (cx : Cx) (q : Option Nat) (ro : RO) : Prop :=
  match q with
  | none => ro.foot = []
  | some n => ro.foot = (cx.μ n).foot ∧ wr n = true ∧ ∃ o, H n = some o

theorem flat_nil {cx : Cx} {w : World} {d : Bool} {e : Ty} (hf : e.flat = true) : ∀ {css : List (List Value)} {xs : List e.den} {bss : List (List Nat)}, All3 (El w cx.S d e) css xs bss → bss.flatten = []
  | [], [], [], _ => rfl
  | c :: css, x :: xs, b :: bss, h => by
    have h1 : El w cx.S d e c x b := h.1
    have h2 : b = [] := by
      unfold El at h1
      split at h1
      · exact h1.flat hf
      · exact h1.2
    rw [List.flatten_cons, h2, flat_nil hf h.2]; rfl
  | [], [], _ :: _, h => h.elim
  | [], _ :: _, _, h => h.elim
  | _ :: _, [], _, h => h.elim
  | _ :: _, _ :: _, [], h => h.elim

theorem flatten_take {k : Nat} : ∀ {css : List (List Value)} (n : Nat), (∀ c ∈ css, c.length = k) → css.flatten.take (n * k) = (css.take n).flatten
  | [], n, _ => by simp
  | c :: css, 0, _ => by simp
  | c :: css, n + 1, h => by
    have hc := h c (by simp)
    rw [List.take_succ_cons, List.flatten_cons, List.flatten_cons, ← flatten_take n fun c hc => h c (List.mem_cons_of_mem _ hc), List.take_append, hc, Nat.add_mul, Nat.one_mul, Nat.add_sub_cancel, List.take_of_length_le (by omega)]

theorem LT.of_is [Laid] (h : RH G M H cx w) {wr : Nat → Bool} {l : LT} {c : LV} {x : l.den} {mv : List (Option Nat)} {v : Value} (ho : l.of H wr c = some (x, mv)) (hv : VL cx w c v) :
    ∃ ros : List RO, All2 (RowOf H wr cx) mv ros ∧ ∀ (nx : Nat) (cx2 : Cx), cx2.S = cx.S → (∀ (j : Nat) (ro : RO), ros[j]? = some ro → cx2.μ (nx + j) = ro) → VL cx2 w (l.to nx x).1 v ∧ (l.to nx x).2.length = ros.length ∧ ∀ (j : Nat) (o : Ob) (ro : RO), (l.to nx x).2[j]? = some o → ros[j]? = some ro → ObR cx2 w ro o := by
  cases l with
  | int k =>
    cases c <;> simp [LT.of] at ho
    obtain ⟨rfl, rfl, rfl⟩ := ho
    exact ⟨[], trivial, fun nx cx2 _ _ => ⟨hv, rfl, fun j o ro h => by simp [LT.to] at h⟩⟩
  | bool =>
    cases c <;> simp [LT.of] at ho
    obtain ⟨rfl, rfl⟩ := ho
    exact ⟨[], trivial, fun nx cx2 _ _ => ⟨hv, rfl, fun j o ro h => by simp [LT.to] at h⟩⟩
  | str =>
    cases c <;> simp [LT.of] at ho
    obtain ⟨rfl, rfl⟩ := ho
    exact ⟨[], trivial, fun nx cx2 _ _ => ⟨hv, rfl, fun j o ro h => by simp [LT.to] at h⟩⟩
  | ro Et e =>
    have key : Rd w cx.S (.slice Et e) [v] x ∧ mv = [] := by
      cases c <;> simp only [LT.of] at ho <;> try (cases ho; done)
      case nil =>
        simp at ho; obtain ⟨rfl, rfl⟩ := ho
        obtain ⟨A, rfl⟩ := hv
        exact ⟨⟨A, 0, rfl, Nat.le_refl _, fun i hi => by simp at hi⟩, rfl⟩
      case sl E' e' xs =>
        split at ho
        · rename_i ys hy
          simp at ho; obtain ⟨rfl, rfl⟩ := ho
          obtain ⟨rfl, rfl, rfl⟩ := asRows_some hy
          exact ⟨hv, rfl⟩
        · cases ho
      case ref n =>
        split at ho
        · rename_i E' e' xs hn
          split at ho
          · rename_i ys hy
            simp at ho; obtain ⟨rfl, rfl⟩ := ho
            obtain ⟨rfl, rfl, rfl⟩ := asRows_some hy
            obtain ⟨_, _, _, hr⟩ := h.ob n _ hn
            exact ⟨by rw [hv.1]; exact hr, rfl⟩
          · cases ho
        · cases ho
    obtain ⟨hr, rfl⟩ := key
    exact ⟨[], trivial, fun nx cx2 hS _ => ⟨by show Rd w cx2.S _ _ _; rw [hS]; exact hr, rfl, fun j o ro h => by simp [LT.to] at h⟩⟩
  | own Et e d =>
    cases c <;> simp only [LT.of] at ho <;> try (cases ho; done)
    case nil =>
      simp at ho; obtain ⟨rfl, rfl⟩ := ho
      obtain ⟨A, rfl⟩ := hv
      refine ⟨[⟨.slice A 0 0, 0, e.size, 0, []⟩], ⟨rfl, trivial⟩, fun nx cx2 hS hμ => ?_⟩
      have h0 := hμ 0 _ rfl
      simp only [Nat.add_zero] at h0
      refine ⟨⟨by rw [h0], A, 0, 0, rfl⟩, rfl, fun j o ro ho hro => ?_⟩
      cases j with
      | zero =>
        simp [LT.to] at ho hro; subst ho; subst hro
        exact ⟨rfl, rfl, rfl, .inl ⟨rfl, ⟨A, rfl⟩, rfl⟩⟩
      | succ j => simp [LT.to] at ho
    case ref n =>
      split at ho
      · rename_i E' e' d' ver xs hn
        split at ho
        · rename_i hc
          split at ho
          · rename_i ys hy
            simp at ho; obtain ⟨rfl, rfl⟩ := ho
            obtain ⟨rfl, rfl, rfl⟩ := asRows_some hy
            simp only [Bool.and_eq_true, Bool.or_eq_true, beq_iff_eq] at hc
            obtain ⟨q1, q2, q3, q4⟩ := h.ob n _ hn
            refine ⟨[{ cx.μ n with ver := 0 }], ⟨⟨rfl, hc.1, _, hn⟩, trivial⟩, fun nx cx2 hS hμ => ?_⟩
            have h0 := hμ 0 _ rfl
            simp only [Nat.add_zero] at h0
            refine ⟨⟨by rw [h0]; exact hv.1, hv.2⟩, rfl, fun j o ro ho hro => ?_⟩
            cases j with
            | zero =>
              simp [LT.to] at ho hro; subst ho; subst hro
              refine ⟨rfl, q2, q3, q4.mono (fun _ _ => rfl) fun c x bs _ hE => ?_⟩
              rw [hS]
              rcases hc.2 with rfl | hf
              · exact hE
              · unfold El at hE ⊢
                cases d <;> cases d' <;> simp at hE ⊢
                · exact hE
                · exact ⟨hE.rd fun b hb => (by rw [hE.flat hf] at hb; cases hb), hE.flat hf⟩
                · rw [hE.2]; exact hE.1.flat hf
                · exact hE
            | succ j => simp [LT.to] at ho
          · cases ho
        · cases ho
      · cases ho
    case sub n lo hi =>
      split at ho
      · rename_i E' e' d' ver xs hn
        split at ho
        · rename_i hc
          split at ho
          · rename_i ys hy
            simp at ho; obtain ⟨rfl, rfl⟩ := ho
            obtain ⟨rfl, rfl, rfl⟩ := asRows_some hy
            simp only [Bool.and_eq_true, decide_eq_true_eq] at hc
            obtain ⟨⟨hw, hf⟩, rfl⟩ := hc
            obtain ⟨q1, q2, q3, q4⟩ := h.ob n _ hn
            obtain ⟨_, h2, h3, A, cap, A', e1, e2, e3, e4, e5⟩ := hv
            obtain rfl := e4 rfl
            refine ⟨[⟨v, hi.toNat, e'.size, 0, (cx.μ n).foot⟩], ⟨⟨rfl, hw, _, hn⟩, trivial⟩, fun nx cx2 hS hμ => ?_⟩
            have h0 := hμ 0 _ rfl
            simp only [Nat.add_zero] at h0
            refine ⟨⟨by rw [h0], _, _, _, e3⟩, rfl, fun j o ro ho hro => ?_⟩
            cases j with
            | succ j => simp [LT.to] at ho
            | zero =>
              simp [LT.to] at ho hro; subst ho; subst hro
              have hlen : (N.cut (castL rfl xs) 0 hi).length = hi.toNat := by
                simp [N.cut, castL]
                omega
              refine ⟨rfl, hlen.symm, rfl, ?_⟩
              rcases q4 with ⟨hx, ⟨A2, hA2⟩, hf2⟩ | ⟨g, cap', cur, css, bss, f1, f2, f3, f4, f5, f6, f7, f8⟩
              · have hx : castL rfl xs = [] := hx
                have hi0 : hi = 0 := by
                  have : (cx.μ n).len = 0 := by rw [q2]; simpa [castL] using congrArg List.length hx
                  omega
                subst hi0
                rw [hA2] at e1
                simp only [Value.slice.injEq] at e1
                obtain ⟨_, _, rfl⟩ := e1
                exact .inl ⟨by rw [hx]; rfl, ⟨_, by rw [e3]; rfl⟩, hf2⟩
              · rw [f1] at e1
                simp only [Value.slice.injEq] at e1
                obtain ⟨rfl, hl, rfl⟩ := e1
                have hl : xs.length = (cx.μ n).len := hl
                refine .inr ⟨g, cap', cur, css.take hi.toNat, bss.take hi.toNat, ?_, f2, by rw [hlen]; omega, f4, f5, ?_, ?_, ?_⟩
                · show v = _
                  rw [hlen, e3]; simp
                · have f6 : List.take (xs.length * e'.size) cur.toList = css.flatten := f6
                  have hk : hi.toNat * e'.size ≤ xs.length * e'.size := Nat.mul_le_mul_right _ (by omega)
                  rw [hlen, ← flatten_take _ (All3.lens (fun c x b hE => El.size hE) f8), ← f6, List.take_take, Nat.min_eq_left hk]
                · have hn2 : (bss.take hi.toNat).flatten = [] := by
                    have := flat_nil hf f8
                    rw [List.flatten_eq_nil_iff] at this ⊢
                    exact fun b hb => this b (List.mem_of_mem_take hb)
                  show (cx.μ n).foot = _
                  rw [f7, hn2, flat_nil hf f8]
                · have hcut : N.cut (castL rfl xs) 0 hi = xs.take hi.toNat := by simp [N.cut, castL]
                  rw [hcut]
                  refine (All3.take hi.toNat f8).mono fun c x bs _ hE => ?_
                  rw [hS]
                  unfold El at hE ⊢
                  cases d <;> cases d' <;> simp at hE ⊢
                  · exact hE
                  · exact ⟨hE.rd fun b hb => (by rw [hE.flat hf] at hb; cases hb), hE.flat hf⟩
                  · rw [hE.2]; exact hE.1.flat hf
                  · exact hE
          · cases ho
        · cases ho
      · cases ho

theorem LT.all_is [Laid] (h : RH G M H cx w) {wr : Nat → Bool} : ∀ {ls : List LT} {cs : List LV} {x : Tup (ls.map LT.den)} {mv : List (Option Nat)} {vs : List Value}, LT.all H wr ls cs = some (x, mv) → All2 (VL cx w) cs vs →
    ∃ ros : List RO, All2 (RowOf H wr cx) mv ros ∧ ∀ (nx : Nat) (cx2 : Cx), cx2.S = cx.S → (∀ (j : Nat) (ro : RO), ros[j]? = some ro → cx2.μ (nx + j) = ro) → All2 (VL cx2 w) (LT.toAll nx ls x).1 vs ∧ (LT.toAll nx ls x).2.length = ros.length ∧ ∀ (j : Nat) (o : Ob) (ro : RO), (LT.toAll nx ls x).2[j]? = some o → ros[j]? = some ro → ObR cx2 w ro o
  | [], [], x, mv, [], ho, _ => by
    simp [LT.all] at ho; obtain ⟨_, rfl⟩ := ho
    exact ⟨[], trivial, fun nx cx2 _ _ => ⟨trivial, rfl, fun j o ro h => by simp [LT.toAll] at h⟩⟩
  | [], _ :: _, _, _, _, ho, _ => by simp [LT.all] at ho
  | _ :: _, [], _, _, _, ho, _ => by simp [LT.all] at ho
  | l :: ls, c :: cs, x, mv, v :: vs, ho, hv => by
    simp only [LT.all] at ho
    split at ho
    · rename_i y m1 h1
      split at ho
      · rename_i z m2 h2
        simp at ho; obtain ⟨rfl, rfl⟩ := ho
        obtain ⟨r1, a1, b1⟩ := LT.of_is h h1 hv.1
        obtain ⟨r2, a2, b2⟩ := LT.all_is h h2 hv.2
        refine ⟨r1 ++ r2, a1.append a2, fun nx cx2 hS hμ => ?_⟩
        obtain ⟨c1, c2, c3⟩ := b1 nx cx2 hS fun j ro hj => hμ j ro (by rw [List.getElem?_append_left (List.getElem?_eq_some_iff.1 hj).1]; exact hj)
        obtain ⟨d1, d2, d3⟩ := b2 (nx + (l.to nx y).2.length) cx2 hS fun j ro hj => by
          rw [c2, Nat.add_assoc]; exact hμ _ ro (by rw [List.getElem?_append_right (by omega)]; simpa using hj)
        simp only [LT.toAll, Tup.hd_cons, Tup.tl_cons]
        have d2' := d2
        rw [c2] at d2'
        have hsub : ∀ j, j - (l.to nx y).2.length = j - r1.length := fun j => by rw [c2]
        refine ⟨⟨c1, d1⟩, by simp [c2, d2'], fun j o ro hj hro => ?_⟩
        rcases Nat.lt_or_ge j r1.length with hlt | hge
        · rw [List.getElem?_append_left (by omega)] at hj hro; exact c3 j o ro hj hro
        · rw [List.getElem?_append_right (by omega)] at hj hro
          rw [hsub] at hj
          exact d3 _ o ro hj hro
      · cases ho
    · cases ho

def LI.place (s : St) : LI → List Nat
  | .slot _ _ => []
  | .box t _ => match s.tmps t with | .lf (.ptr a 0) => [a] | _ => []
  | .vec t _ _ _ => match s.tmps t with | .lf (.ref a) => [a] | _ => []

/-- the objects in place, at the head -/
def verAt (s : St) (n : Nat) (cx : Cx) : Nat := match s.H n with
  | some (.vec _ _ _ ver _) => ver + 1
  | some (.box _) => (cx.μ n).ver
  | _ => 0

theorem LI.of_is [Laid] (h : RH G M s'.H cx w) (hv : ∀ t, VR cx w (s'.tmps t) (a.eval (.tmp t))) {l : LI} {x : l.den} {mv : List (Option Nat)} (ho : l.of E s' = some (x, mv)) (hst : stands s s' [l] = true) (hb : ∃ y, l.of E s = some y) :
    ∃ ros : List RO, All2 (RowOf s'.H (tk E s'.wr) cx) mv ros ∧ (∀ n ∈ l.place s, ∃ o, s'.H n = some o) ∧ ∀ (nx : Nat) (cx2 : Cx), cx2.S = cx.S → (∀ (j : Nat) (ro : RO), ros[j]? = some ro → cx2.μ (nx + j) = ro) → (∀ n ∈ l.place s, cx2.μ n = { cx.μ n with ver := verAt s n cx }) →
      (∀ p ∈ (l.to s nx x).1, VR cx2 w p.2 (a.eval (.tmp p.1))) ∧ (l.to s nx x).2.2.length = ros.length ∧ (∀ (j : Nat) (o : Ob) (ro : RO), (l.to s nx x).2.2[j]? = some o → ros[j]? = some ro → ObR cx2 w ro o) ∧ (l.to s nx x).2.1.map (·.1) = l.place s ∧
      ∀ p ∈ (l.to s nx x).2.1, ∃ o, p.2 = some o ∧ ObR cx2 w (cx2.μ p.1) o := by
  cases l with
  | slot t l =>
    simp only [LI.of] at ho
    have hvt := hv t
    split at ho
    · rename_i c hc
      rw [hc] at hvt
      obtain ⟨ros, a1, a2⟩ := LT.of_is h ho hvt
      refine ⟨ros, a1, fun n hn => by simp [LI.place] at hn, fun nx cx2 hS hμ _ => ?_⟩
      obtain ⟨b1, b2, b3⟩ := a2 nx cx2 hS hμ
      exact ⟨fun p hp => by simp [LI.to] at hp; subst hp; exact b1, b2, b3, rfl, fun p hp => by simp [LI.to] at hp⟩
    · cases ho
  | box t ls =>
    simp only [LI.of] at ho
    have hvt := hv t
    split at ho
    · rename_i n hc
      rw [hc] at hvt
      split at ho
      · rename_i cs hn
        obtain ⟨g, cur, T, e1, e2, e3, e4⟩ := h.ob n _ hn
        obtain ⟨ros, a1, a2⟩ := LT.all_is h ho e4
        have hsn : s.tmps t = .lf (.ptr n 0) := by
          simp only [stands, hc, Bool.and_true] at hst
          split at hst
          · rename_i a b ha hb; simp at hb; simp at hst; rw [ha, hst, hb]
          · cases hst
        refine ⟨ros, a1, fun m hm => by simp [LI.place, hsn] at hm; subst hm; exact ⟨_, hn⟩, fun nx cx2 hS hμ hpl => ?_⟩
        obtain ⟨b1, b2, b3⟩ := a2 nx cx2 hS hμ
        have hn2 := hpl n (by simp [LI.place, hsn])
        simp only [LI.to, hsn, LI.place]
        refine ⟨fun p hp => ?_, b2, b3, rfl, fun p hp => ?_⟩
        · simp at hp; subst hp
          obtain ⟨g', h1, h2⟩ := hvt
          exact ⟨g', by rw [hn2]; exact h1, h2⟩
        · simp at hp; subst hp
          exact ⟨_, rfl, g, cur, T, by rw [hn2]; exact e1, by rw [hn2]; exact e2, e3, b1⟩
      · cases ho
    · cases ho
  | vec t T e d =>
    simp only [LI.of] at ho
    have hvt := hv t
    split at ho
    · rename_i n hc
      rw [hc] at hvt
      split at ho
      · rename_i E' e' d' ver xs hn
        split at ho
        · rename_i hd
          split at ho
          · rename_i ys hy
            simp at ho; obtain ⟨rfl, rfl⟩ := ho
            obtain ⟨rfl, rfl, rfl⟩ := asRows_some hy
            simp at hd; subst hd
            have hsn : s.tmps t = .lf (.ref n) := by
              simp only [stands, hc, Bool.and_true] at hst
              split at hst
              · rename_i a b ha hb; simp at hb; simp at hst; rw [ha, hst, hb]
              · cases hst
            refine ⟨[], trivial, fun m hm => by simp [LI.place, hsn] at hm; subst hm; exact ⟨_, hn⟩, fun nx cx2 hS hμ hpl => ?_⟩
            have hn2 := hpl n (by simp [LI.place, hsn])
            obtain ⟨q1, q2, q3, q4⟩ := h.ob n _ hn
            simp only [LI.to, hsn, LI.place]
            refine ⟨fun p hp => ?_, rfl, fun j o ro hj => by simp at hj, rfl, fun p hp => ?_⟩
            · simp at hp; subst hp
              exact ⟨by rw [hn2]; exact hvt.1, hvt.2⟩
            · simp at hp; subst hp
              have hrow : Row1 w E' e'.size (El w cx2.S d e') (cx.μ n).v (castL rfl xs) (cx.μ n).foot := by rw [hS]; exact q4
              obtain ⟨y, hb⟩ := hb
              simp only [LI.of, hsn] at hb
              split at hb
              · rename_i E2 e2 d2 ver2 xs2 hsH
                refine ⟨_, rfl, ?_⟩
                rw [hn2]
                simp only [hsH, verAt]
                exact ⟨rfl, q2, q3, hrow⟩
              · cases hb
          · cases ho
        · cases ho
      · cases ho
    · cases ho
end
end Go.Sh

namespace Go.Sh
open Go Go.RowKit

section
variable {cx cx' cx1 cx2 : Cx} {w w' : World} {G : Base} {M M' nx n' : Nat} {H H' Hm : Heap} {P : Program} {E : Env} {nt : Nat} {V : Nat → Value} {s s' s0 : St} {a a' : Act} {R : Type} {r : R}

theorem inPlace_cons (s : St) (l : LI) (ls : List LI) : inPlace s (l :: ls) = l.place s ++ inPlace s ls := by cases l <;> rfl
theorem stands_cons (s s' : St) (l : LI) (ls : List LI) : stands s s' (l :: ls) = (stands s s' [l] && stands s s' ls) := by cases l <;> simp [stands]

theorem LS.of_is [Laid] (h : RH G M s'.H cx w) (hv : ∀ t, VR cx w (s'.tmps t) (a.eval (.tmp t))) : ∀ {ls : List LI} {x : LS ls} {mv : List (Option Nat)}, LS.of E s' ls = some (x, mv) → stands s s' ls = true → (∃ y, LS.of E s ls = some y) →
    ∃ ros : List RO, All2 (RowOf s'.H (tk E s'.wr) cx) mv ros ∧ (∀ n ∈ inPlace s ls, ∃ o, s'.H n = some o) ∧ ∀ (nx : Nat) (cx2 : Cx), cx2.S = cx.S → (∀ (j : Nat) (ro : RO), ros[j]? = some ro → cx2.μ (nx + j) = ro) → (∀ n ∈ inPlace s ls, cx2.μ n = { cx.μ n with ver := verAt s n cx }) →
      (∀ p ∈ (LS.to s nx ls x).1, VR cx2 w p.2 (a.eval (.tmp p.1))) ∧ (LS.to s nx ls x).2.2.length = ros.length ∧ (∀ (j : Nat) (o : Ob) (ro : RO), (LS.to s nx ls x).2.2[j]? = some o → ros[j]? = some ro → ObR cx2 w ro o) ∧ (LS.to s nx ls x).2.1.map (·.1) = inPlace s ls ∧
      ∀ p ∈ (LS.to s nx ls x).2.1, ∃ o, p.2 = some o ∧ ObR cx2 w (cx2.μ p.1) o
  | [], x, mv, ho, _, _ => by
    simp [LS.of] at ho; obtain ⟨_, rfl⟩ := ho
    exact ⟨[], trivial, (fun n hn => by simp [inPlace] at hn), fun nx cx2 _ _ _ => ⟨(fun p hp => by simp [LS.to] at hp), rfl, (fun j o ro hj => by simp [LS.to] at hj), rfl, (fun p hp => by simp [LS.to] at hp)⟩⟩
  | l :: ls, x, mv, ho, hst, hb => by
    simp only [LS.of] at ho
    split at ho
    · rename_i y m1 h1
      split at ho
      · rename_i z m2 h2
        simp at ho; obtain ⟨rfl, rfl⟩ := ho
        rw [stands_cons, Bool.and_eq_true] at hst
        obtain ⟨q, hb⟩ := hb
        simp only [LS.of] at hb
        split at hb
        · rename_i y0 n0 hb1
          split at hb
          · rename_i z0 k0 hb2
            obtain ⟨r1, a1, p1, b1⟩ := LI.of_is h hv h1 hst.1 ⟨_, hb1⟩
            obtain ⟨r2, a2, p2, b2⟩ := LS.of_is h hv h2 hst.2 ⟨_, hb2⟩
            refine ⟨r1 ++ r2, a1.append a2, fun n hn => ?_, fun nx cx2 hS hμ hpl => ?_⟩
            · rw [inPlace_cons] at hn
              rcases List.mem_append.1 hn with hn | hn
              · exact p1 n hn
              · exact p2 n hn
            rw [inPlace_cons] at hpl
            obtain ⟨c1, c2, c3, c4, c5⟩ := b1 nx cx2 hS (fun j ro hj => hμ j ro (by rw [List.getElem?_append_left (List.getElem?_eq_some_iff.1 hj).1]; exact hj)) fun n hn => hpl n (List.mem_append_left _ hn)
            obtain ⟨d1, d2, d3, d4, d5⟩ := b2 (nx + (l.to s nx y).2.2.length) cx2 hS (fun j ro hj => by
              rw [c2, Nat.add_assoc]; exact hμ _ ro (by rw [List.getElem?_append_right (by omega)]; simpa using hj)) fun n hn => hpl n (List.mem_append_right _ hn)
            simp only [LS.to, Tup.hd_cons, Tup.tl_cons]
            have d2' := d2
            rw [c2] at d2'
            have hsub : ∀ j, j - (l.to s nx y).2.2.length = j - r1.length := fun j => by rw [c2]
            refine ⟨fun p hp => ?_, by simp [c2, d2'], fun j o ro hj hro => ?_, by rw [inPlace_cons, List.map_append, c4, d4], fun p hp => ?_⟩
            · rcases List.mem_append.1 hp with hp | hp
              · exact c1 p hp
              · exact d1 p hp
            · rcases Nat.lt_or_ge j r1.length with hlt | hge
              · rw [List.getElem?_append_left (by omega)] at hj hro; exact c3 j o ro hj hro
              · rw [List.getElem?_append_right (by omega)] at hj hro
                rw [hsub] at hj
                exact d3 _ o ro hj hro
            · rcases List.mem_append.1 hp with hp | hp
              · exact c5 p hp
              · exact d5 p hp
          · cases hb
        · cases hb
      · cases ho
    · cases ho

def DslOk (s : St) : Prop := ∀ p : Nat × Nat, ((∃ t, p ∈ (s.tmps t).dsls) ∨ ∃ m cs, s.H m = some (.box cs) ∧ p ∈ cs.flatMap LV.dsls) → ∀ E e d ver xs, s.H p.1 = some (.vec E e d ver xs) → p.2 ≤ ver

theorem Rel.dsl [Laid] (h : Rel G V nt s a w) : DslOk s := fun p hp E e d ver xs hn => by
  obtain ⟨cx, h1, h2, hV⟩ := h.ex
  have hver := (h1.ob _ _ hn).1
  rw [hver]
  rcases hp with ⟨t, ht⟩ | ⟨m, cs, hm, hp⟩
  · exact (h2 t).ver p ht
  · obtain ⟨g, cur, T, _, _, _, hc⟩ := h1.ob _ _ hm
    exact VLs.ver hc p hp

theorem upd_at [Laid] : ∀ {u : Upd} {H : Heap} {m : Nat} {q : Option Ob}, (Upd.names u).Nodup → (m, q) ∈ u → H.upd u m = q
  | (n, o) :: u, H, m, q, hnd, hm => by
    simp only [Upd.names, List.map_cons, List.nodup_cons] at hnd
    rcases List.mem_cons.1 hm with h | h
    · simp only [Prod.mk.injEq] at h
      obtain ⟨rfl, rfl⟩ := h
      show Heap.upd _ u m = q
      rw [Heap.upd_other _ u hnd.1]; simp
    · exact upd_at (u := u) hnd.2 h

theorem look_mem {t : Tmp} {v : SV} : ∀ {l : List (Tmp × SV)}, look t l = some v → (t, v) ∈ l
  | [], h => by simp [look] at h
  | (t', v') :: l, h => by
    simp only [look] at h
    split at h
    · rename_i e; simp at h; subst h; subst e; simp
    · exact List.mem_cons_of_mem _ (look_mem h)

theorem All2.at {α β : Type} {r : α → β → Prop} : ∀ {x : List α} {y : List β}, All2 r x y → ∀ {j : Nat} {b : β}, y[j]? = some b → ∃ a, x[j]? = some a ∧ r a b
  | _ :: _, _ :: _, h, 0, b, hb => by simp at hb; subst hb; exact ⟨_, rfl, h.1⟩
  | _ :: x, _ :: y, h, j + 1, b, hb => by
    obtain ⟨a, ha, hr⟩ := All2.at h.2 (j := j) (by simpa using hb)
    exact ⟨a, by simpa using ha, hr⟩
  | [], [], _, j, b, hb => by simp at hb

theorem names?_mem {l : List (Option Nat)} {n j : Nat} (h : l[j]? = some (some n)) : n ∈ names? l := List.mem_filterMap.2 ⟨some n, List.mem_of_getElem? h, rfl⟩

theorem names?_idx [Laid] : ∀ {l : List (Option Nat)} {i j n : Nat}, (names? l).Nodup → l[i]? = some (some n) → l[j]? = some (some n) → i = j
  | [], i, j, n, _, h, _ => by simp at h
  | q :: l, 0, 0, n, _, _, _ => rfl
  | q :: l, 0, j + 1, n, hnd, h1, h2 => by
    simp at h1; subst h1
    simp only [names?, List.filterMap_cons, id, List.nodup_cons] at hnd
    exact absurd (names?_mem (l := l) (by simpa using h2)) hnd.1
  | q :: l, i + 1, 0, n, hnd, h1, h2 => by
    simp at h2; subst h2
    simp only [names?, List.filterMap_cons, id, List.nodup_cons] at hnd
    exact absurd (names?_mem (l := l) (by simpa using h1)) hnd.1
  | q :: l, i + 1, j + 1, n, hnd, h1, h2 => by
    have hnd' : (names? l).Nodup := by
      cases q with
      | none => simpa [names?] using hnd
      | some m => simp only [names?, List.filterMap_cons, id, List.nodup_cons] at hnd; exact hnd.2
    exact congrArg (· + 1) (names?_idx (l := l) (i := i) (j := j) (n := n) hnd' (by simpa using h1) (by simpa using h2))

/-- what stands in place is a row or a box -/
theorem place_ob [Laid] : ∀ {ls : List LI} {y : LS ls × List (Option Nat)}, LS.of E s ls = some y → ∀ n ∈ inPlace s ls, (∃ E e d ver xs, s.H n = some (.vec E e d ver xs)) ∨ ∃ cs, s.H n = some (.box cs)
  | [], y, _, n, hn => by simp [inPlace] at hn
  | l :: ls, y, h, n, hn => by
    simp only [LS.of] at h
    split at h
    · rename_i z m1 h1
      split at h
      · rename_i z2 m2 h2
        rw [inPlace_cons] at hn
        rcases List.mem_append.1 hn with hn | hn
        · cases l with
          | slot => simp [LI.place] at hn
          | box t ls' =>
            simp only [LI.of] at h1
            split at h1
            · rename_i b hb
              simp [LI.place, hb] at hn; subst hn
              split at h1
              · rename_i cs hcs; exact .inr ⟨cs, hcs⟩
              · cases h1
            · cases h1
          | vec t T e d =>
            simp only [LI.of] at h1
            split at h1
            · rename_i b hb
              simp [LI.place, hb] at hn; subst hn
              split at h1
              · rename_i hcs; exact .inl ⟨_, _, _, _, _, hcs⟩
              · cases h1
            · cases h1
        · exact place_ob h2 n hn
      · cases h
    · cases h

theorem place_old [Laid] (ho : StOk s) : ∀ {ls : List LI}, ∀ n ∈ inPlace s ls, n < s.nx
  | [], n, hn => by simp [inPlace] at hn
  | l :: ls, n, hn => by
    rw [inPlace_cons] at hn
    rcases List.mem_append.1 hn with hn | hn
    · cases l with
      | slot => simp [LI.place] at hn
      | box t _ =>
        simp only [LI.place] at hn
        split at hn
        · rename_i b hb; simp at hn; subst hn; exact ho.tmps t n (by rw [hb]; simp [SV.names, LV.names])
        · cases hn
      | vec t _ _ _ =>
        simp only [LI.place] at hn
        split at hn
        · rename_i b hb; simp at hn; subst hn; exact ho.tmps t n (by rw [hb]; simp [SV.names, LV.names])
        · cases hn
    · exact place_old ho n hn

/-- the state at the head tells of the machine -/
theorem rebase [Laid] (hio : E.nio = G.nio) {gone : List Nat} {W : List Tmp} {ls : List LI} {x : LS ls} {mv : List (Option Nat)} (ho : StOk s) (hnio0 : G.nio ≤ s.nx) (hr : Rel G V nt s' a w) (hdsl : DslOk s) (htm : ∀ t, t ∉ W → s'.tmps t = s.tmps t)
    (hob : ∀ m, m < s.nx → m ∉ gone → m ∉ inPlace s ls → s'.H m = s.H m) (hof : LS.of E s' ls = some (x, mv)) (hd : (names? mv).Nodup) (hmv : ∀ n ∈ names? mv, s.nx ≤ n ∨ n ∈ gone) (hmi : ∀ n ∈ names? mv, n ∉ inPlace s ls)
    (hst : stands s s' ls = true) {y : LS ls × List (Option Nat)} (hb : LS.of E s ls = some y) (hin : (inPlace s ls).Nodup) : Rel G V nt (headSt s W gone ls x) a w := by
  obtain ⟨cx, h1, h2, hV⟩ := hr.ex
  obtain ⟨ros, g1, g2, g3⟩ := LS.of_is h1 h2 hof hst ⟨y, hb⟩
  let cx2 : Cx := { S := cx.S, μ := fun m => if m < s.nx then (if m ∈ inPlace s ls then { cx.μ m with ver := verAt s m cx } else if m ∈ gone then { cx.μ m with ver := (cx.μ m).ver + 1, foot := [] } else cx.μ m) else match ros[m - s.nx]? with | some ro => ro | none => noRO }
  have hold := place_old (ls := ls) ho
  have μp : ∀ n ∈ inPlace s ls, cx2.μ n = { cx.μ n with ver := verAt s n cx } := fun n hn => by
    show (if n < s.nx then _ else _) = _
    rw [if_pos (hold n hn), if_pos hn]
  have μg : ∀ n, n < s.nx → n ∉ inPlace s ls → n ∈ gone → cx2.μ n = { cx.μ n with ver := (cx.μ n).ver + 1, foot := [] } := fun n h1 h2 h3 => by
    show (if n < s.nx then _ else _) = _
    rw [if_pos h1, if_neg h2, if_pos h3]
  have μo : ∀ n, n < s.nx → n ∉ inPlace s ls → n ∉ gone → cx2.μ n = cx.μ n := fun n h1 h2 h3 => by
    show (if n < s.nx then _ else _) = _
    rw [if_pos h1, if_neg h2, if_neg h3]
  have μn : ∀ (j : Nat) (ro : RO), ros[j]? = some ro → cx2.μ (s.nx + j) = ro := fun j ro hj => by
    show (if s.nx + j < s.nx then _ else _) = _
    rw [if_neg (by omega), Nat.add_sub_cancel_left, hj]
  have μz : ∀ m, s.nx ≤ m → ros[m - s.nx]? = none → cx2.μ m = noRO := fun m h1 h2 => by
    show (if m < s.nx then _ else _) = _
    rw [if_neg (by omega), h2]
  obtain ⟨k1, k2, k3, k4, k5⟩ := g3 s.nx cx2 rfl μn μp
  generalize hp : LS.to s s.nx ls x = p at *
  -- old names, as far as values care
  have hre : ∀ (ns : List Nat) (ds : List (Nat × Nat)), (∀ n ∈ ns, n < s.nx) → (∀ q ∈ ds, q.1 ∈ ns ∧ q.2 ≤ (cx.μ q.1).ver ∧ ∀ E e d ver xs, s.H q.1 = some (.vec E e d ver xs) → q.2 ≤ ver) → Re cx cx2 ns ds := fun ns ds hns hds => by
    refine ⟨rfl, fun n hn => ?_, fun q hq => ?_⟩
    · have := hns n hn
      by_cases c1 : n ∈ inPlace s ls
      · rw [μp n c1]; exact ⟨rfl, rfl, rfl⟩
      · by_cases c2 : n ∈ gone
        · rw [μg n this c1 c2]; exact ⟨rfl, rfl, rfl⟩
        · rw [μo n this c1 c2]; exact ⟨rfl, rfl, rfl⟩
    · obtain ⟨q1, q2, q3⟩ := hds q hq
      have hlt := hns q.1 q1
      by_cases c1 : q.1 ∈ inPlace s ls
      · rcases place_ob hb q.1 c1 with ⟨E', e, d, ver, xs, hv⟩ | ⟨cs, hv⟩
        · refine .inr ?_
          have := q3 _ _ _ _ _ hv
          rw [μp q.1 c1]; simp only [verAt, hv]; omega
        · refine .inl ?_
          rw [μp q.1 c1]; simp only [verAt, hv]; exact ⟨trivial, trivial⟩
      · by_cases c2 : q.1 ∈ gone
        · refine .inr ?_
          rw [μg q.1 hlt c1 c2]; simp only; omega
        · refine .inl ?_
          rw [μo q.1 hlt c1 c2]; exact ⟨rfl, rfl⟩
  -- the heap, name by name
  let H2 : Heap := (headSt s W gone ls x).H
  have hH : H2 = Heap.upd (fun m => if gone.contains m then none else if Nat.blt m s.nx then s.H m else none) (p.2.1 ++ numbered s.nx p.2.2) := by simp only [H2, headSt, hp]
  have hnames : Upd.names p.2.1 = inPlace s ls := k4
  have Hp : ∀ m ∈ inPlace s ls, ∃ o, H2 m = some o ∧ ObR cx2 w (cx2.μ m) o := fun m hm => by
    obtain ⟨q, hq, rfl⟩ := List.mem_map.1 (show m ∈ p.2.1.map (·.1) by rw [k4]; exact hm)
    obtain ⟨o, e1, e2⟩ := k5 q hq
    refine ⟨o, ?_, e2⟩
    rw [hH, Heap.upd_append, upd_numbered, if_neg (by have := hold q.1 hm; omega)]
    rw [← e1]
    exact upd_at (by rw [hnames]; exact hin) hq
  have Ho : ∀ m, m < s.nx → m ∉ inPlace s ls → H2 m = if gone.contains m then none else s.H m := fun m hm hni => by
    rw [hH, Heap.upd_append, upd_numbered, if_neg (by omega), Heap.upd_other _ _ (by rw [hnames]; exact hni)]
    rw [blt_iff.2 hm]; simp
  have Hn : ∀ m, s.nx ≤ m → H2 m = p.2.2[m - s.nx]? := fun m hm => by
    rw [hH, Heap.upd_append, upd_numbered]
    split
    · rfl
    · rename_i hh
      rw [Heap.upd_other _ _ (by rw [hnames]; exact fun hmem => by have := hold m hmem; omega), List.getElem?_eq_none (by omega)]
      have : Nat.blt m s.nx = false := by cases hc : Nat.blt m s.nx with
        | true => have := blt_iff.1 hc; omega
        | false => rfl
      simp [this]
  -- where a live name's memory comes from
  have src : ∀ m o, H2 m = some o → (cx2.μ m).foot = [] ∨ ∃ n o', s'.H n = some o' ∧ (cx2.μ m).foot = (cx.μ n).foot ∧ ((m < s.nx ∧ n = m) ∨ (s.nx ≤ m ∧ mv[m - s.nx]? = some (some n) ∧ G.nio ≤ n)) := fun m o hm => by
    by_cases hlt : m < s.nx
    · by_cases hpl : m ∈ inPlace s ls
      · obtain ⟨o', ho'⟩ := g2 m hpl
        exact .inr ⟨m, o', ho', by rw [μp m hpl], .inl ⟨hlt, rfl⟩⟩
      · rw [Ho m hlt hpl] at hm
        split at hm
        · cases hm
        · rename_i hg
          have hg : m ∉ gone := by simpa using hg
          exact .inr ⟨m, o, by rw [hob m hlt hg hpl]; exact hm, by rw [μo m hlt hpl hg], .inl ⟨hlt, rfl⟩⟩
    · have hge : s.nx ≤ m := by omega
      rw [Hn m hge] at hm
      have hjl := (List.getElem?_eq_some_iff.1 hm).1
      have hro : ros[m - s.nx]? = some (ros[m - s.nx]'(by omega)) := List.getElem?_eq_getElem _
      obtain ⟨q, hq, hrow⟩ := All2.at g1 hro
      have hμ := μn _ _ hro
      rw [show s.nx + (m - s.nx) = m by omega] at hμ
      cases q with
      | none => exact .inl (by rw [hμ]; exact hrow)
      | some n =>
        obtain ⟨e1, e2, o', e3⟩ := hrow
        refine .inr ⟨n, o', e3, by rw [hμ]; exact e1, .inr ⟨hge, hq, ?_⟩⟩
        simp [tk, hio] at e2; exact e2.2
  refine ⟨⟨cx2, ⟨fun m o hm => ?_, fun m o hm => ?_, fun m hm => ?_, fun m k o o' hm hk hne b hb1 => ?_, fun m o hm => ?_, fun m o b hm hb1 => ?_, h1.ss, h1.sg, h1.os, h1.tape, h1.output, h1.size, h1.block, h1.laid⟩, fun t => ?_, fun n hn => ?_⟩, hr.defers, hr.size, Nat.le_trans hnio0 (Nat.le_add_right _ _)⟩
  · by_cases hlt : m < s.nx
    · by_cases hpl : m ∈ inPlace s ls
      · obtain ⟨o', ho', hrow⟩ := Hp m hpl
        have : H2 m = some o := hm
        rw [ho'] at this; simp at this; subst this; exact hrow
      · have hm : H2 m = some o := hm
        rw [Ho m hlt hpl] at hm
        split at hm
        · cases hm
        · rename_i hg
          have hg : m ∉ gone := by simpa using hg
          rw [μo m hlt hpl hg]
          have hob1 := h1.ob m o (by rw [hob m hlt hg hpl]; exact hm)
          cases o with
          | box cs =>
            obtain ⟨g, cur, T, e1, e2, e3, e4⟩ := hob1
            exact ⟨g, cur, T, e1, e2, e3, VLs.re (hre _ _ (fun n hn => (ho.obs m _ hm).2 n hn) fun q hq => ⟨LVs.dsl_name hq, VLs.ver e4 q hq, hdsl q (.inr ⟨m, cs, hm, hq⟩)⟩) e4⟩
          | vec => exact hob1
          | fro => exact hob1
    · have hge : s.nx ≤ m := by omega
      have hm : H2 m = some o := hm
      rw [Hn m hge] at hm
      have hjl := (List.getElem?_eq_some_iff.1 hm).1
      have hro : ros[m - s.nx]? = some (ros[m - s.nx]'(by omega)) := List.getElem?_eq_getElem _
      have hμ := μn _ _ hro
      rw [show s.nx + (m - s.nx) = m by omega] at hμ
      rw [hμ]; exact k3 _ o _ hm hro
  · show m < s.nx + (LS.to s s.nx ls x).2.2.length
    rw [hp]
    by_cases hlt : m < s.nx
    · omega
    · have hm : H2 m = some o := hm
      rw [Hn m (by omega)] at hm
      have := (List.getElem?_eq_some_iff.1 hm).1; omega
  · have hm : H2 m = none := hm
    by_cases hlt : m < s.nx
    · by_cases hpl : m ∈ inPlace s ls
      · obtain ⟨o', ho', _⟩ := Hp m hpl
        rw [ho'] at hm; cases hm
      · by_cases hg : m ∈ gone
        · rw [μg m hlt hpl hg]
        · rw [Ho m hlt hpl] at hm
          rw [μo m hlt hpl hg]
          have hg' : gone.contains m = false := by simpa using hg
          rw [hg'] at hm
          exact h1.dead m (by rw [hob m hlt hg hpl]; simpa using hm)
    · rw [Hn m (by omega), List.getElem?_eq_none_iff] at hm
      rw [μz m (by omega) (List.getElem?_eq_none (by omega))]; rfl
  · rcases src m o hm with h0 | ⟨n1, o1, e1, e2, e3⟩
    · rw [h0] at hb1; cases hb1
    · rcases src k o' hk with h0 | ⟨n2, o2, f1, f2, f3⟩
      · rw [h0]; simp
      · rw [e2] at hb1
        rw [f2]
        refine h1.dj n1 n2 o1 o2 e1 f1 (fun heq => hne ?_) b hb1
        subst heq
        rcases e3 with ⟨e3, e4⟩ | ⟨e3, e4, _⟩ <;> rcases f3 with ⟨f3, f4⟩ | ⟨f3, f4, _⟩
        · rw [← e4, f4]
        · exfalso
          subst e4
          have hmem := names?_mem f4
          rcases hmv _ hmem with h | h
          · omega
          · have hm : H2 n1 = some o := hm
            rw [Ho n1 e3 (hmi _ hmem)] at hm
            rw [show gone.contains n1 = true by simpa using h] at hm; cases hm
        · exfalso
          subst f4
          have hmem := names?_mem e4
          rcases hmv _ hmem with h | h
          · omega
          · have hk : H2 n1 = some o' := hk
            rw [Ho n1 f3 (hmi _ hmem)] at hk
            rw [show gone.contains n1 = true by simpa using h] at hk; cases hk
        · have := names?_idx hd e4 f4; omega
  · rcases src m o hm with h0 | ⟨n1, o1, e1, e2, _⟩
    · rw [h0]; exact List.nodup_nil
    · rw [e2]; exact h1.nd n1 o1 e1
  · rcases src m o hm with h0 | ⟨n1, o1, e1, e2, e3⟩
    · rw [h0] at hb1; cases hb1
    · rw [e2] at hb1
      obtain ⟨q1, q2, q3⟩ := h1.mine n1 o1 b e1 hb1
      refine ⟨?_, q2, q3⟩
      rcases e3 with ⟨_, e4⟩ | ⟨e3, e4, e5⟩
      · subst e4; exact q1
      · rcases q1 with q1 | ⟨q1, _⟩
        · exact .inl q1
        · omega
  · show VR cx2 w (match look t (LS.to s s.nx ls x).1 with | some v => v | none => if W.contains t then .top else s.tmps t) (a.eval (.tmp t))
    rw [hp]
    split
    · rename_i v hv; exact k1 _ (look_mem hv)
    · split
      · trivial
      · rename_i hW
        have hW : t ∉ W := by simpa using hW
        have hvt := h2 t
        rw [htm t hW] at hvt
        exact VR.re (hre _ _ (fun n hn => ho.tmps t n hn) fun q hq => ⟨SV.dsl_name hq, VR.ver hvt q hq, hdsl q (.inl ⟨t, hq⟩)⟩) hvt
  · rw [← hV n hn]
    have hlt : n < s.nx := by omega
    by_cases c1 : n ∈ inPlace s ls
    · rw [μp n c1]
    · by_cases c2 : n ∈ gone
      · rw [μg n hlt c1 c2]
      · rw [μo n hlt c1 c2]
end
end Go.Sh

namespace Go.Sh
open Go Go.RowKit

section
variable {cx cx' cx1 cx2 : Cx} {w w' : World} {G : Base} {M M' nx n' : Nat} {H H' Hm : Heap} {P : Program} {E : Env} {nt : Nat} {V : Nat → Value} {s s' s0 : St} {a a' : Act}

def Ex.out : Ex → Exit
  | .normal => .normal
  | .ret => .ret
  | .exit id => .exit id

theorem LT.to_names {l : LT} {x : l.den} : (∀ m ∈ (l.to nx x).1.names, m < nx + (l.to nx x).2.length) ∧ ∀ o ∈ (l.to nx x).2, o.names = [] := by
  cases l <;> simp [LT.to, LV.names, Ob.names]

theorem LT.all_names [Laid] : ∀ {ls : List LT} {nx : Nat} {x : Tup (ls.map LT.den)}, (∀ m ∈ (LT.toAll nx ls x).1.flatMap LV.names, m < nx + (LT.toAll nx ls x).2.length) ∧ ∀ o ∈ (LT.toAll nx ls x).2, o.names = []
  | [], _, _ => by simp [LT.toAll]
  | l :: ls, nx, x => by
    obtain ⟨h1, h2⟩ := LT.to_names (nx := nx) (l := l) (x := Tup.hd x)
    obtain ⟨h3, h4⟩ := LT.all_names (ls := ls) (nx := nx + (l.to nx (Tup.hd x)).2.length) (x := Tup.tl x)
    simp only [LT.toAll, List.flatMap_cons, List.length_append]
    refine ⟨fun m hm => ?_, fun o ho => ?_⟩
    · rcases List.mem_append.1 hm with hm | hm
      · have := h1 m hm; omega
      · have := h3 m hm; omega
    · rcases List.mem_append.1 ho with ho | ho
      · exact h2 o ho
      · exact h4 o ho

theorem LI.to_names [Laid] (ho : StOk s) (hnx : s.nx ≤ nx) {l : LI} {x : l.den} : (∀ p ∈ (l.to s nx x).1, ∀ m ∈ p.2.names, m < nx + (l.to s nx x).2.2.length) ∧ (∀ p ∈ (l.to s nx x).2.1, p.1 < nx ∧ ∃ o, p.2 = some o ∧ ∀ m ∈ o.names, m < nx + (l.to s nx x).2.2.length) ∧ ∀ o ∈ (l.to s nx x).2.2, o.names = [] := by
  cases l with
  | slot t l =>
    obtain ⟨h1, h2⟩ := LT.to_names (nx := nx) (l := l) (x := x)
    exact ⟨fun p hp => by simp [LI.to] at hp; subst hp; exact h1, (fun p hp => by simp [LI.to] at hp), h2⟩
  | box t ls =>
    obtain ⟨h1, h2⟩ := LT.all_names (nx := nx) (ls := ls) (x := x)
    simp only [LI.to]
    split
    · rename_i b off hb
      have hlt := ho.tmps t b (by rw [hb]; simp [SV.names, LV.names])
      refine ⟨fun p hp m hm => ?_, fun p hp => ?_, h2⟩
      · simp at hp; subst hp; simp [SV.names, LV.names] at hm; subst hm; simp only; omega
      · simp at hp; subst hp; exact ⟨by simp only; omega, _, rfl, h1⟩
    · exact ⟨(fun p hp => by simp at hp), (fun p hp => by simp at hp), h2⟩
  | vec t T e d =>
    simp only [LI.to]
    split
    · rename_i b hb
      have hlt := ho.tmps t b (by rw [hb]; simp [SV.names, LV.names])
      refine ⟨fun p hp m hm => ?_, fun p hp => ?_, fun o ho => by simp at ho⟩
      · simp at hp; subst hp; simp [SV.names, LV.names] at hm; subst hm; simp only; omega
      · simp at hp; subst hp
        refine ⟨by simp only; omega, _, rfl, fun m hm => ?_⟩
        split at hm <;> simp [Ob.names] at hm
    · exact ⟨(fun p hp => by simp at hp), (fun p hp => by simp at hp), (fun o ho => by simp at ho)⟩

theorem LS.to_names [Laid] (ho : StOk s) : ∀ {ls : List LI} {nx : Nat} {x : LS ls}, s.nx ≤ nx → (∀ p ∈ (LS.to s nx ls x).1, ∀ m ∈ p.2.names, m < nx + (LS.to s nx ls x).2.2.length) ∧ (∀ p ∈ (LS.to s nx ls x).2.1, p.1 < nx + (LS.to s nx ls x).2.2.length ∧ ∃ o, p.2 = some o ∧ ∀ m ∈ o.names, m < nx + (LS.to s nx ls x).2.2.length) ∧ ∀ o ∈ (LS.to s nx ls x).2.2, o.names = []
  | [], _, _, _ => by simp [LS.to]
  | l :: ls, nx, x, hnx => by
    obtain ⟨h1, h2, h3⟩ := LI.to_names ho hnx (l := l) (x := Tup.hd x)
    obtain ⟨h4, h5, h6⟩ := LS.to_names ho (ls := ls) (nx := nx + (l.to s nx (Tup.hd x)).2.2.length) (x := Tup.tl x) (by omega)
    simp only [LS.to, List.length_append]
    refine ⟨fun p hp m hm => ?_, fun p hp => ?_, fun o ho => ?_⟩
    · rcases List.mem_append.1 hp with hp | hp
      · have := h1 p hp m hm; omega
      · have := h4 p hp m hm; omega
    · rcases List.mem_append.1 hp with hp | hp
      · obtain ⟨g1, o, g2, g3⟩ := h2 p hp
        exact ⟨by omega, o, g2, fun m hm => by have := g3 m hm; omega⟩
      · obtain ⟨g1, o, g2, g3⟩ := h5 p hp
        exact ⟨by omega, o, g2, fun m hm => by have := g3 m hm; omega⟩
    · rcases List.mem_append.1 ho with ho | ho
      · exact h3 o ho
      · exact h6 o ho

theorem headSt_ok [Laid] (ho : StOk s) {W : List Tmp} {gone : List Nat} {ls : List LI} {x : LS ls} : StOk (headSt s W gone ls x) := by
  obtain ⟨h1, h2, h3⟩ := LS.to_names ho (ls := ls) (nx := s.nx) (x := x) (Nat.le_refl _)
  refine ⟨fun t m hm => ?_, fun n o hn => ?_, fun m hm => ?_⟩
  · simp only [headSt] at hm ⊢
    split at hm
    · rename_i v hv; exact h1 _ (look_mem hv) m hm
    · split at hm
      · simp [SV.names] at hm
      · have := ho.tmps t m hm; omega
  · simp only [headSt] at hn ⊢
    rcases upd_in hn with hn | hn
    · split at hn
      · cases hn
      · split at hn
        · obtain ⟨g1, g2⟩ := ho.obs n o hn
          exact ⟨by omega, fun m hm => by have := g2 m hm; omega⟩
        · cases hn
    · rcases List.mem_append.1 hn with hn | hn
      · obtain ⟨g1, o', g2, g3⟩ := h2 _ hn
        simp at g2; subst g2
        exact ⟨g1, g3⟩
      · have : ∀ (os : List Ob) (k : Nat), (n, some o) ∈ numbered k os → n < k + os.length ∧ o ∈ os := by
          intro os
          induction os with
          | nil => intro k h; simp [numbered] at h
          | cons q os ih =>
            intro k h
            rcases List.mem_cons.1 h with h | h
            · simp at h; obtain ⟨rfl, rfl⟩ := h; simp
            · have := ih (k + 1) h; simp; exact ⟨by omega, .inr this.2⟩
        obtain ⟨g1, g2⟩ := this _ _ hn
        exact ⟨g1, fun m hm => by rw [h3 o g2] at hm; cases hm⟩
  · simp only [headSt] at hm ⊢
    simp [ble_iff.2 (show s.nx ≤ m by omega)]

theorem to_place [Laid] : ∀ {ls : List LI} {nx : Nat} {x : LS ls}, stands s s ls = true → (LS.to s nx ls x).2.1.map (·.1) = inPlace s ls
  | [], _, _, _ => rfl
  | l :: ls, nx, x, h => by
    rw [stands_cons, Bool.and_eq_true] at h
    simp only [LS.to, List.map_append, inPlace_cons]
    rw [to_place h.2]
    congr 1
    cases l with
    | slot => rfl
    | box t _ =>
      have h1 := h.1
      simp only [stands, Bool.and_true] at h1
      split at h1
      · rename_i a b ha hb; simp [LI.to, LI.place, ha]
      · cases h1
    | vec t _ _ _ =>
      have h1 := h.1
      simp only [stands, Bool.and_true] at h1
      split at h1
      · rename_i a b ha hb; simp [LI.to, LI.place, ha]
      · cases h1

theorem to_same [Laid] {W : List Tmp} : ∀ {ls : List LI} {nx : Nat} {x : LS ls}, stands s s ls = true → slotsIn W ls = true → ∀ p ∈ (LS.to s nx ls x).1, p.1 ∈ W ∨ p.2 = s.tmps p.1
  | [], _, _, _, _, p, hp => by simp [LS.to] at hp
  | l :: ls, nx, x, h, hW, p, hp => by
    rw [stands_cons, Bool.and_eq_true] at h
    simp only [LS.to] at hp
    have hW' : slotsIn W ls = true := by cases l <;> simp [slotsIn] at hW <;> simp [hW]
    rcases List.mem_append.1 hp with hp | hp
    · cases l with
      | slot t l => simp [LI.to] at hp; subst hp; simp [slotsIn] at hW; exact .inl hW.1
      | box t _ =>
        have h1 := h.1
        simp only [stands, Bool.and_true] at h1
        split at h1
        · rename_i a b ha hb; simp [LI.to, ha] at hp; subst hp; exact .inr ha.symm
        · cases h1
      | vec t _ _ _ =>
        have h1 := h.1
        simp only [stands, Bool.and_true] at h1
        split at h1
        · rename_i a b ha hb; simp [LI.to, ha] at hp; subst hp; exact .inr ha.symm
        · cases h1
    · exact to_same h.2 hW' p hp

theorem headSt_tmps [Laid] {W : List Tmp} {gone : List Nat} {ls : List LI} {x : LS ls} (hst : stands s s ls = true) (hsl : slotsIn W ls = true) {t : Tmp} (ht : t ∉ W) : (headSt s W gone ls x).tmps t = s.tmps t := by
  simp only [headSt]
  split
  · rename_i v hv
    rcases to_same hst hsl _ (look_mem hv) with h | h
    · exact absurd h ht
    · exact h
  · rw [if_neg (by simpa using ht)]

theorem headSt_obs [Laid] (ho : StOk s) {W : List Tmp} {gone : List Nat} {ls : List LI} {x : LS ls} (hst : stands s s ls = true) {m : Nat} (hm : m < s.nx) (hp : m ∉ inPlace s ls) : (headSt s W gone ls x).H m = if gone.contains m then none else s.H m := by
  simp only [headSt]
  rw [Heap.upd_append, upd_numbered, if_neg (by omega), Heap.upd_other _ _ (by
    show m ∉ (LS.to s s.nx ls x).2.1.map (·.1)
    rw [to_place hst]; exact hp)]
  rw [blt_iff.2 hm]; simp

theorem exists_least {p : Nat → Prop} (h : ∃ n, p n) : ∃ n, p n ∧ ∀ m, p m → n ≤ m := by
  obtain ⟨n, hn⟩ := h
  induction n using Nat.strongRecOn with
  | _ n ih =>
    by_cases hh : ∃ m, m < n ∧ p m
    · obtain ⟨m, h1, h2⟩ := hh; exact ih m h1 h2
    · exact ⟨n, hn, fun m hm => by
        rcases Nat.lt_or_ge m n with h1 | h1
        · exact absurd ⟨m, h1, hm⟩ hh
        · exact h1⟩

theorem loopF_some {S R : Type} {step : S → Option (S ⊕ R)} {x : S} {r : R} (h : loopF step x = some r) : ∃ n, loopN step n x = some r := by
  unfold loopF at h
  split at h
  · rename_i hh
    simp only [Option.some.injEq] at h
    have := Classical.choose_spec (Classical.choose_spec hh)
    rw [h] at this
    exact ⟨_, this⟩
  · cases h

theorem start_spec [Laid] {W : List Tmp} {ls : List LI} {x : LS ls} {g : List Nat} (h : start E s W ls = some (x, g)) : ∃ mv, LS.of E s ls = some (x, mv) ∧ g = names? mv ∧ g.Nodup ∧ slotsIn W ls = true ∧ stands s s ls = true ∧ (inPlace s ls).Nodup ∧ (∀ n ∈ g, n ∉ inPlace s ls) ∧ (∀ n ∈ inPlace s ls, s.wr n = true) ∧ ∀ n ∈ g, s.wr n = true := by
  unfold start at h
  split at h
  · rename_i y mv hof
    split at h
    · rename_i hc
      simp only [Option.some.injEq, Prod.mk.injEq] at h
      obtain ⟨rfl, rfl⟩ := h
      simp only [Bool.and_eq_true, List.all_eq_true, Bool.not_eq_true', List.contains_eq_mem, decide_eq_false_iff_not] at hc
      obtain ⟨⟨⟨⟨⟨⟨c1, c2⟩, c3⟩, c4⟩, c5⟩, c6⟩, c7⟩ := hc
      exact ⟨mv, hof, rfl, distinct_spec c1, c2, c3, distinct_spec c4, c5, c6, c7⟩
    · cases h
  · cases h

theorem fin_spec [Laid] {ls : List LI} {x : LS ls} (h : fin E s s' ls = some x) : ∃ mv, LS.of E s' ls = some (x, mv) ∧ (names? mv).Nodup ∧ stands s s' ls = true ∧ ∀ n ∈ names? mv, s.nx ≤ n := by
  unfold fin at h
  split at h
  · rename_i y mv hof
    split at h
    · rename_i hc
      simp only [Option.some.injEq] at h
      subst h
      simp only [Bool.and_eq_true, List.all_eq_true, ble_iff] at hc
      exact ⟨mv, hof, distinct_spec hc.1.1, hc.1.2, hc.2⟩
    · cases h
  · cases h

/-- behind a cut -/
theorem cut_is [Laid] (hio : E.nio = G.nio) {R : Type} {r : R} {W : List Tmp} {ls : List LI} {x : LS ls} {g : List Nat} {a : Act} {w : World} (hst : start E s W ls = some (x, g)) (ho : StOk s) (hr : Rel G V nt s a w) {K : Ex → St → Option R} {J : Option (LS ls ⊕ R)}
    (hh : N.join J (fun x => K .normal { headSt s W g ls x with wr := s.wr }) = some r) {Q : Exit → Act → World → Prop} (hQ : ∀ e s' a' w', Keeps s s' W → StOk s' → Rel G V nt s' a' w' → K e s' = some r → Q e.out a' w') :
    ∃ q, J = some q ∧ StOk (headSt s W g ls x) ∧ Rel G V nt (headSt s W g ls x) a w ∧ ∀ e s' a' w', Keeps (headSt s W g ls x) s' W → StOk s' → Rel G V nt s' a' w' → cutK E s ls K e s' = some q → Q e.out a' w' := by
  obtain ⟨mv0, hof, hg, hgn, hslots, hstand, hin, hgi, hiw, hgw⟩ := start_spec hst
  have hdsl := hr.dsl
  have hplt := place_old (ls := ls) ho
  have hI0 := rebase (gone := g) (W := W) hio ho hr.nio hr hdsl (fun _ _ => rfl) (fun _ _ _ _ => rfl) hof (hg ▸ hgn) (fun n hn => .inr (hg ▸ hn)) (fun n hn => hgi n (hg ▸ hn)) hstand hof hin
  have round : ∀ {x s'}, Keeps (headSt s W g ls x) s' W → (∀ t, t ∉ W → s'.tmps t = s.tmps t) ∧ (∀ m, m < s.nx → m ∉ g → m ∉ inPlace s ls → s'.H m = s.H m) ∧ s.nx ≤ s'.nx := fun {x s'} hk => by
    refine ⟨fun t ht => (hk.tmps t ht).trans (headSt_tmps hstand hslots ht), fun m hm hmg hmi => ?_, Nat.le_trans (Nat.le_add_right _ _) hk.nx⟩
    rw [hk.obs m (Nat.lt_of_lt_of_le hm (Nat.le_add_right _ _)) (by
      simp only [headSt]
      have h1 : (inPlace s ls).contains m = false := by simpa using hmi
      have h2 : Nat.ble s.nx m = false := by
        cases hc : Nat.ble s.nx m with
        | true => have := ble_iff.1 hc; omega
        | false => rfl
      rw [h1, h2]; rfl), headSt_obs ho hstand hm hmi]
    rw [show g.contains m = false by simpa using hmg]; simp
  cases J with
  | none => simp [N.join] at hh
  | some q =>
    refine ⟨q, rfl, headSt_ok ho, hI0, fun e s2 a2 w2 hk2 ho2 hr2 hK2 => ?_⟩
    obtain ⟨rd1, rd2, rd3⟩ := round hk2
    have hout : ∀ e', (K e' { s2 with wr := s.wr }).map (Sum.inr (α := LS ls)) = some q → Q e'.out a2 w2 := fun e' hKe => by
      rw [Option.map_eq_some_iff] at hKe
      obtain ⟨r', hKr, rfl⟩ := hKe
      simp only [N.join, Option.bind_some, Option.some.injEq] at hh
      subst hh
      refine hQ e' { s2 with wr := s.wr } a2 w2 ⟨rd1, fun m hm hw => ?_, rd3, rfl⟩ ⟨ho2.tmps, ho2.obs, fun m hm => ho.wr m (Nat.le_trans rd3 hm)⟩ ⟨hr2.ex, hr2.defers, hr2.size, hr2.nio⟩ hKr
      refine rd2 m hm (fun hmg => ?_) fun hmi => ?_
      · rw [hgw m hmg] at hw; cases hw
      · rw [hiw m hmi] at hw; cases hw
    cases e with
    | normal =>
      simp only [cutK] at hK2
      split at hK2
      · rename_i x2 hfin
        simp only [Option.some.injEq] at hK2
        subst hK2
        obtain ⟨mv, f1, f2, f3, f4⟩ := fin_spec hfin
        have hrb := rebase (gone := g) (W := W) hio ho hr.nio hr2 hdsl rd1 rd2 f1 f2 (fun n hn => .inl (f4 n hn)) (fun n hn hni => by have := f4 n hn; have := hplt n hni; omega) f3 hof hin
        simp only [N.join, Option.bind_some] at hh
        have ho3 := headSt_ok ho (W := W) (gone := g) (ls := ls) (x := x2)
        obtain ⟨t1, t2, t3⟩ := round (Keeps.refl (headSt s W g ls x2) W)
        refine hQ .normal { headSt s W g ls x2 with wr := s.wr } a2 w2 ⟨t1, fun m hm hw => ?_, t3, rfl⟩ ⟨ho3.tmps, ho3.obs, fun m hm => ho.wr m (Nat.le_trans t3 hm)⟩ ⟨hrb.ex, hrb.defers, hrb.size, hrb.nio⟩ hh
        refine t2 m hm (fun hmg => ?_) fun hmi => ?_
        · rw [hgw m hmg] at hw; cases hw
        · rw [hiw m hmi] at hw; cases hw
      · cases hK2
    | ret => exact hout .ret hK2
    | exit id => exact hout (.exit id) hK2

theorem evCode_is [Laid] (hE : TabOk P E) (hΓ : EnvOk P E) (hio : E.nio = G.nio) (hmo : P.follows .mixedOrders = true) : ∀ (c : Code) {R : Type} {r : R} {bid : Nat} {s : St} {K : Ex → St → Option R} {a : Act} {w : World} {Q : Exit → Act → World → Prop},
    evCode E nt c bid s K = some r → StOk s → Rel G V nt s a w → (∀ e s' a' w', Keeps s s' (writes c) → StOk s' → Rel G V nt s' a' w' → K e s' = some r → Q e.out a' w') → c.wp P Q a w
  | .skip, R, r, bid, s, K, a, w, Q, hh, ho, hr, hQ => wp_skip (hQ .normal s a w (Keeps.refl _ _) ho hr (by simpa only [evCode] using hh))
  | .label _, R, r, bid, s, K, a, w, Q, hh, ho, hr, hQ => wp_label (hQ .normal s a w (Keeps.refl _ _) ho hr (by simpa only [evCode] using hh))
  | .exit id, R, r, bid, s, K, a, w, Q, hh, ho, hr, hQ => wp_exit (hQ (.exit id) s a w (Keeps.refl _ _) ho hr (by simpa only [evCode] using hh))
  | .ret, R, r, bid, s, K, a, w, Q, hh, ho, hr, hQ => wp_ret (hQ .ret s a w (Keeps.refl _ _) ho hr (by simpa only [evCode] using hh))
  | .region id ops draw, R, r, bid, s, K, a, w, Q, hh, ho, hr, hQ => by
    have hW : ∀ o ∈ ops.toList, ∀ t ∈ o.dst.toList, t ∈ writes (.region id ops draw) := fun o ho t ht => by
      simp only [writes, List.mem_filterMap]
      exact ⟨o, ho, by simpa using ht⟩
    simp only [evCode] at hh
    cases draw with
    | true => exact evDraw_is hE hΓ hio hmo hW ho hr (by simpa using hh) fun s' a' w' hk ho' hr' hK => hQ .normal s' a' w' hk ho' hr' hK
    | false =>
      refine wp_region ?_
      have := evOps_is hE hΓ hio (ops := ops) (s0 := s) (W := writes (.region id ops false)) (Q := Q) hW (fun s' a' w' hk ho' hr' hK => hQ .normal s' a' w' hk ho' hr' hK) ops.toList 0 s a w rfl (by simpa using hh) (Keeps.refl _ _) ho hr
      rw [List.range_eq_range']
      simpa using this
  | .seq x y, R, r, bid, s, K, a, w, Q, hh, ho, hr, hQ => by
    simp only [evCode] at hh
    refine wp_seq (evCode_is hE hΓ hio hmo x hh ho hr fun e s1 a1 w1 hk1 ho1 hr1 hK1 => ?_)
    have hm1 : ∀ t ∈ writes x, t ∈ writes (.seq x y) := fun t ht => List.mem_append_left _ ht
    have hm2 : ∀ t ∈ writes y, t ∈ writes (.seq x y) := fun t ht => List.mem_append_right _ ht
    cases e with
    | normal =>
      show y.wp P Q a1 w1
      exact evCode_is hE hΓ hio hmo y hK1 ho1 hr1 fun e s2 a2 w2 hk2 ho2 hr2 hK2 => hQ e s2 a2 w2 ((hk1.mono hm1).trans (hk2.mono hm2)) ho2 hr2 hK2
    | ret => exact hQ .ret s1 a1 w1 (hk1.mono hm1) ho1 hr1 hK1
    | exit id => exact hQ (.exit id) s1 a1 w1 (hk1.mono hm1) ho1 hr1 hK1
  | .cond c x y, R, r, bid, s, K, a, w, Q, hh, ho, hr, hQ => by
    simp only [evCode] at hh
    obtain ⟨cx, h1, h2, hV⟩ := hr.ex
    have hv := opSV_sound h2 c
    split at hh
    · rename_i b hb
      rw [hb] at hv
      simp only [VR, VL] at hv
      split at hh
      · unfold N.cond at hh
        cases b with
        | true =>
          exact wp_cond_true hv (evCode_is hE hΓ hio hmo x (by simpa using hh) ho hr fun e s2 a2 w2 hk ho2 hr2 hK2 => hQ e s2 a2 w2 (hk.mono fun t ht => List.mem_append_left _ ht) ho2 hr2 hK2)
        | false =>
          exact wp_cond_false hv (evCode_is hE hΓ hio hmo y (by simpa using hh) ho hr fun e s2 a2 w2 hk ho2 hr2 hK2 => hQ e s2 a2 w2 (hk.mono fun t ht => List.mem_append_right _ ht) ho2 hr2 hK2)
      · rename_i ls hls
        split at hh
        · rename_i z g hst
          obtain ⟨q, hq, ho1, hr1, hQ1⟩ := cut_is hio hst ho hr hh hQ
          unfold N.cond at hq
          cases b with
          | true =>
            exact wp_cond_true hv (evCode_is hE hΓ hio hmo x (by simpa using hq) ho1 hr1 fun e s2 a2 w2 hk ho2 hr2 hK2 => hQ1 e s2 a2 w2 (hk.mono fun t ht => List.mem_append_left _ ht) ho2 hr2 hK2)
          | false =>
            exact wp_cond_false hv (evCode_is hE hΓ hio hmo y (by simpa using hq) ho1 hr1 fun e s2 a2 w2 hk ho2 hr2 hK2 => hQ1 e s2 a2 w2 (hk.mono fun t ht => List.mem_append_right _ ht) ho2 hr2 hK2)
        · cases hh
    · rename_i e hb
      rw [hb] at hv
      obtain ⟨b, hv, hbe⟩ := hv
      unfold N.nilc at hh
      cases b with
      | true =>
        rw [if_pos (hbe rfl)] at hh
        split at hh
        · exact wp_cond_true hv (evCode_is hE hΓ hio hmo x hh ho hr fun e s2 a2 w2 hk ho2 hr2 hK2 => hQ e s2 a2 w2 (hk.mono fun t ht => List.mem_append_left _ ht) ho2 hr2 hK2)
        · cases hh
      | false =>
        have hy : evCode E nt y bid s K = some r := by
          split at hh
          · split at hh
            · rename_i heq; rw [← heq]; exact hh
            · cases hh
          · exact hh
        exact wp_cond_false hv (evCode_is hE hΓ hio hmo y hy ho hr fun e s2 a2 w2 hk ho2 hr2 hK2 => hQ e s2 a2 w2 (hk.mono fun t ht => List.mem_append_right _ ht) ho2 hr2 hK2)
    · cases hh
  | .block id c, R, r, bid, s, K, a, w, Q, hh, ho, hr, hQ => by
    simp only [evCode] at hh
    split at hh
    · refine wp_block (evCode_is hE hΓ hio hmo c hh ho hr fun e s1 a1 w1 hk1 ho1 hr1 hK1 => ?_)
      cases e with
      | normal => exact hQ .normal s1 a1 w1 hk1 ho1 hr1 hK1
      | ret => exact hQ .ret s1 a1 w1 hk1 ho1 hr1 hK1
      | exit j =>
        show if j = id then Q .normal a1 w1 else Q (.exit j) a1 w1
        simp only at hK1
        split at hK1
        · rename_i hj; rw [if_pos hj]; exact hQ .normal s1 a1 w1 hk1 ho1 hr1 hK1
        · rename_i hj; rw [if_neg hj]; exact hQ (.exit j) s1 a1 w1 hk1 ho1 hr1 hK1
    · rename_i ls hls
      split at hh
      · rename_i y g hst
        obtain ⟨q, hq, ho1, hr1, hQ1⟩ := cut_is hio hst ho hr hh hQ
        refine wp_block (evCode_is hE hΓ hio hmo c hq ho1 hr1 fun e s1 a1 w1 hk1 ho1 hr1 hK1 => ?_)
        cases e with
        | normal => exact hQ1 .normal s1 a1 w1 hk1 ho1 hr1 hK1
        | ret => exact hQ1 .ret s1 a1 w1 hk1 ho1 hr1 hK1
        | exit j =>
          show if j = id then Q .normal a1 w1 else Q (.exit j) a1 w1
          simp only at hK1
          split at hK1
          · rename_i hj; rw [if_pos hj]; exact hQ1 .normal s1 a1 w1 hk1 ho1 hr1 hK1
          · rename_i hj; rw [if_neg hj]; exact hQ1 (.exit j) s1 a1 w1 hk1 ho1 hr1 hK1
      · cases hh
  | .loop c, R, r, bid, s, K, a, w, Q, hh, ho, hr, hQ => by
    classical
    simp only [evCode] at hh
    split at hh
    · cases hh
    · rename_i ls hls
      split at hh
      · rename_i x g hst
        obtain ⟨mv0, hof, hg, hgn, hslots, hstand, hin, hgi, hiw, hgw⟩ := start_spec hst
        have hdsl := hr.dsl
        have hplt := place_old (ls := ls) ho
        generalize hstep : (fun x => evCode E nt c (R := LS ls ⊕ R) bid (headSt s (writes c) g ls x) fun e s' => match e with
            | .normal => match fin E s s' ls with
              | some x => some (.inl x)
              | none => none
            | e => (K e { s' with wr := s.wr }).map .inr) = step at hh
        obtain ⟨n0, hn0⟩ := loopF_some hh
        -- what a round leaves as it was
        have round : ∀ {x s'}, Keeps (headSt s (writes c) g ls x) s' (writes c) → (∀ t, t ∉ writes c → s'.tmps t = s.tmps t) ∧ (∀ m, m < s.nx → m ∉ g → m ∉ inPlace s ls → s'.H m = s.H m) ∧ s.nx ≤ s'.nx := fun {x s'} hk => by
          refine ⟨fun t ht => (hk.tmps t ht).trans (headSt_tmps hstand hslots ht), fun m hm hmg hmi => ?_, Nat.le_trans (Nat.le_add_right _ _) hk.nx⟩
          rw [hk.obs m (Nat.lt_of_lt_of_le hm (Nat.le_add_right _ _)) (by
            simp only [headSt]
            have h1 : (inPlace s ls).contains m = false := by simpa using hmi
            have h2 : Nat.ble s.nx m = false := by
              cases hc : Nat.ble s.nx m with
              | true => have := ble_iff.1 hc; omega
              | false => rfl
            rw [h1, h2]; rfl), headSt_obs ho hstand hm hmi]
          rw [show g.contains m = false by simpa using hmg]; simp
        let I : Act → World → Prop := fun a w => ∃ n x, loopN step n x = some r ∧ Rel G V nt (headSt s (writes c) g ls x) a w
        let μ : Act → World → Nat := fun a w => if h : I a w then Classical.choose (exists_least h) else 0
        have hμ : ∀ {a w}, I a w → (∃ x, loopN step (μ a w) x = some r ∧ Rel G V nt (headSt s (writes c) g ls x) a w) ∧ ∀ m, (∃ x, loopN step m x = some r ∧ Rel G V nt (headSt s (writes c) g ls x) a w) → μ a w ≤ m := fun {a w} h => by
          have := Classical.choose_spec (exists_least h)
          simp only [μ, dif_pos h]; exact this
        have hI0 : I a w := ⟨n0, x, hn0, rebase hio ho hr.nio hr hdsl (fun _ _ => rfl) (fun _ _ _ _ => rfl) hof (hg ▸ hgn) (fun n hn => .inr (hg ▸ hn)) (fun n hn => hgi n (hg ▸ hn)) hstand hof hin⟩
        refine wp_loop I μ hI0 fun a1 w1 hI1 => ?_
        obtain ⟨⟨x1, hx1, hr1⟩, _⟩ := hμ hI1
        generalize hn : μ a1 w1 = n1 at hx1
        cases n1 with
        | zero => simp [loopN] at hx1
        | succ k =>
          simp only [loopN] at hx1
          cases hq : step x1 with
          | none => rw [hq] at hx1; cases hx1
          | some q =>
            rw [hq] at hx1
            have hev := hq
            rw [← hstep] at hev
            refine evCode_is hE hΓ hio hmo c hev (headSt_ok ho) hr1 fun e s2 a2 w2 hk2 ho2 hr2 hK2 => ?_
            obtain ⟨rd1, rd2, rd3⟩ := round hk2
            have hout : ∀ e', (K e' { s2 with wr := s.wr }).map (Sum.inr (α := LS ls)) = some q → Q e'.out a2 w2 := fun e' hKe => by
              rw [Option.map_eq_some_iff] at hKe
              obtain ⟨r', hKr, rfl⟩ := hKe
              simp only [Option.some.injEq] at hx1
              subst hx1
              refine hQ e' { s2 with wr := s.wr } a2 w2 ⟨rd1, fun m hm hw => ?_, rd3, rfl⟩ ⟨ho2.tmps, ho2.obs, fun m hm => ho.wr m (Nat.le_trans rd3 hm)⟩ ⟨hr2.ex, hr2.defers, hr2.size, hr2.nio⟩ hKr
              refine rd2 m hm (fun hmg => ?_) fun hmi => ?_
              · rw [hgw m hmg] at hw; cases hw
              · rw [hiw m hmi] at hw; cases hw
            cases e with
            | normal =>
              simp only at hK2
              split at hK2
              · rename_i x2 hfin
                simp only [Option.some.injEq] at hK2
                subst hK2
                obtain ⟨mv, f1, f2, f3, f4⟩ := fin_spec hfin
                have hrb := rebase (gone := g) (W := writes c) hio ho hr.nio hr2 hdsl rd1 rd2 f1 f2 (fun n hn => .inl (f4 n hn)) (fun n hn hni => by have := f4 n hn; have := hplt n hni; omega) f3 hof hin
                have hI2 : I a2 w2 := ⟨k, x2, hx1, hrb⟩
                show I a2 w2 ∧ μ a2 w2 < k + 1
                refine ⟨hI2, ?_⟩
                exact Nat.lt_succ_of_le ((hμ hI2).2 k ⟨x2, hx1, hrb⟩)
              · cases hK2
            | ret => exact hout .ret hK2
            | exit id => exact hout (.exit id) hK2
      · cases hh
  | .rangeFunc _ _ _ _, R, r, bid, s, K, a, w, Q, hh, ho, hr, hQ => by simp only [evCode] at hh; cases hh
  | .scope _, R, r, bid, s, K, a, w, Q, hh, ho, hr, hQ => by simp only [evCode] at hh; cases hh
  | .goto _, R, r, bid, s, K, a, w, Q, hh, ho, hr, hQ => by simp only [evCode] at hh; cases hh
  | .refuse _, R, r, bid, s, K, a, w, Q, hh, ho, hr, hQ => by simp only [evCode] at hh; cases hh
end
end Go.Sh

