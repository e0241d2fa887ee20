/- The evaluator and its soundness, part 4: a function of the program does what its native form tells. -/
import Derived.Test.YtfipolbgkppdjaaGreatDoorSh3
import Derived.Laws.Tables
import Derived.Laws.CopyRow
import Derived.Laws.IdiomCopy
import Derived.Calls
import Derived.Laws.BytesString
import Derived.Laws.Cells
import Derived.Orders
set_option linter.unusedVariables false
set_option linter.unusedSimpArgs false
namespace Go.Sh
open Go Go.RowKit

section
variable {cx cx' : Cx} {w w' : World} {G : Base} {M M' nx n' : Nat} {H H' Hm : Heap} {P : Program} {E : Env}

theorem foldl_put (l : List Value) : ∀ (off : Nat) (cs : Array Value) (st : Nat), off + st + l.length ≤ cs.size → (l.zipIdx st).foldl (fun cs (p : Value × Nat) => cs.setIfInBounds (off + p.2) p.1) cs = (cs.toList.take (off + st) ++ l ++ cs.toList.drop (off + st + l.length)).toArray := by
  induction l with
  | nil => intro off cs st h; simp
  | cons a l ih =>
    intro off cs st h
    simp only [List.zipIdx_cons, List.foldl_cons, List.length_cons] at h ⊢
    rw [ih off _ (st + 1) (by simp; omega)]
    congr 1
    apply List.ext_getElem?
    intro j
    simp only [Array.toList_setIfInBounds]
    by_cases h1 : j < off + st
    · rw [List.append_assoc, List.append_assoc, List.getElem?_append_left (by simp; omega), List.getElem?_append_left (by simp; omega), List.getElem?_take, List.getElem?_take, if_pos (by omega), if_pos h1, List.getElem?_set_ne (by omega)]
    · by_cases h2 : j = off + st
      · subst h2
        rw [List.append_assoc, List.append_assoc, List.getElem?_append_left (by simp; omega), List.getElem?_take, if_pos (by omega), List.getElem?_set_self (by simp; omega), List.getElem?_append_right (by simp; omega)]
        simp
        rw [show off + st - min (off + st) cs.size = 0 by omega]; rfl
      · by_cases h3 : j < off + st + 1 + l.length
        · rw [List.append_assoc, List.append_assoc, List.getElem?_append_right (by simp; omega), List.getElem?_append_left (by simp; omega), List.getElem?_append_right (by simp; omega), List.getElem?_append_left (by simp; omega)]
          simp only [List.length_take, List.length_set, Array.length_toList]
          rw [show j - min (off + st) cs.size = (j - min (off + (st + 1)) cs.size) + 1 by omega]
          rfl
        · rw [List.getElem?_append_right (by simp; omega), List.getElem?_append_right (by simp; omega), List.getElem?_drop, List.getElem?_drop, List.getElem?_set_ne (by simp; omega)]
          simp only [List.length_append, List.length_take, List.length_set, Array.length_toList, List.length_cons]
          congr 1; omega

theorem buildGo_sound [Laid] (hE : TabOk P E) {t : TypeId} {fs : Array Field} (hu : P.underlying t = some (.struct fs)) (size : Field → Nat) (hs : ∀ fd ∈ fs.toList, ∀ fi, E.ti fd.type = some fi → size fd = fi.size) :
    ∀ {ps : List (Nat × SV)} {qs : List (Nat × Value)} {cs out : List LV} {vs : List Value}, buildGo E t ps cs = some out → All2 (fun (p : Nat × SV) (q : Nat × Value) => p.1 = q.1 ∧ VR cx w p.2 q.2) ps qs → All2 (VL cx w) cs vs →
      ∃ us, Instr.fill ((fs.toList.map fun fd => (fd.offset, size fd)).toArray[·]?) vs.toArray qs = some us.toArray ∧ All2 (VL cx w) out us
  | [], [], cs, out, vs, h, _, hv => by simp [buildGo] at h; subst h; exact ⟨vs, rfl, hv⟩
  | (f, s) :: ps, (f', v) :: qs, cs, out, vs, h, hp, hv => by
    obtain ⟨⟨e1, hsv⟩, hp⟩ := hp
    simp only at e1 hsv; subst e1
    simp only [buildGo] at h
    split at h
    · rename_i o fi ss hf hss
      split at h
      · rename_i hc
        obtain ⟨us0, huc, hus⟩ := cells_sound hsv hss
        obtain ⟨ti, fs', fd, h1, h2, h3, h4, h5, h6, h7⟩ := hE.field hf
        rw [hu] at h2; simp at h2; subst h2
        have hsz : size fd = fi.size := hs fd (Array.mem_toList_iff.2 (Array.mem_of_getElem? h3)) fi h5
        have hul := hus.len
        have hvl := hv.len
        have hpl : (fs.toList.map fun fd => (fd.offset, size fd)).toArray[f]? = some (o, fi.size) := by
          simp [h3, h4, hsz]
        obtain ⟨us, g1, g2⟩ := buildGo_sound hE hu size hs h hp (splice_all2 hv hus)
        refine ⟨us, ?_, g2⟩
        simp only [Instr.fill, hpl]
        rw [if_neg (by rw [huc]; simp; omega)]
        have hz : v.cells.zipIdx.foldl (fun cs (p : Value × Nat) => cs.setIfInBounds (o + p.2) p.1) vs.toArray = (vs.take o ++ us0 ++ vs.drop (o + us0.length)).toArray := by
          rw [huc, ← Array.foldl_toList]
          have := foldl_put us0 o vs.toArray 0 (by simp; omega)
          simpa using this
        rw [hz]; exact g1
      · cases h
    · cases h

theorem buildSV_is [Laid] (hE : TabOk P E) {t : TypeId} {ps : List (Nat × SV)} {qs : List (Nat × Value)} (hp : All2 (fun (p : Nat × SV) (q : Nat × Value) => p.1 = q.1 ∧ VR cx w p.2 q.2) ps qs) {R : Type} {r : R} {K : SV → Option R} (h : buildSV E t ps K = some r) :
    ∃ sv, Hands (fun K => buildSV E t ps K) sv ∧ ∃ v, (Instr.build t qs.toArray).run P w = .ok v w ∧ VR cx w sv v := by
  unfold buildSV at h
  split at h
  · rename_i ti hti
    split at h
    · rename_i ty hty
      split at h
      · rename_i hc
        simp only [Bool.and_eq_true, List.all_eq_true] at hc
        split at h
        · rename_i cs hcs
          obtain ⟨fs, hu, hfs⟩ := hE.struct hti hc.1
          obtain ⟨f, hf, hsz, hby, _, h4⟩ := hE.info hti
          obtain ⟨hs, z, hz, hzc, _⟩ := h4 ty hty
          let size : Field → Nat := fun fd => ((P.info? fd.type).map (·.size)).getD 0
          have hall : ∀ fd ∈ fs.toList, ∃ fi, E.ti fd.type = some fi := fun fd hfd => by
            have := hc.2 (fd.offset, fd.type) (by rw [← hfs]; exact List.mem_map.2 ⟨fd, hfd, rfl⟩)
            exact Option.isSome_iff_exists.1 this
          have hsize : ∀ fd ∈ fs.toList, ∀ fi, E.ti fd.type = some fi → size fd = fi.size := fun fd _ fi hfi => by
            obtain ⟨g, hg, e, _⟩ := hE.info hfi
            simp [size, hg, e]
          obtain ⟨us, g1, g2⟩ := buildGo_sound (cx := cx) (w := w) hE hu size hsize hcs hp (zero_sound (t := ty))
          refine ⟨.agg cs, fun K => by simp only [buildSV, hti, hty, hcs]; rw [if_pos (by simp only [Bool.and_eq_true, List.all_eq_true]; exact hc)], .agg us.toArray, ?_, us, rfl, g2⟩
          refine run_build w t _ _ ?_
          unfold Program.built
          have hpl : fs.toList.mapM (fun fd => (P.info? fd.type).map fun i => (fd.offset, i.size)) = some (fs.toList.map fun fd => (fd.offset, size fd)) := by
            have : ∀ l : List Field, (∀ fd ∈ l, ∃ fi, E.ti fd.type = some fi) → l.mapM (fun fd => (P.info? fd.type).map fun i => (fd.offset, i.size)) = some (l.map fun fd => (fd.offset, size fd)) := by
              intro l
              induction l with
              | nil => intro _; rfl
              | cons a l ih =>
                intro hl
                obtain ⟨fi, hfi⟩ := hl a (by simp)
                obtain ⟨g, hg, e, _⟩ := hE.info hfi
                simp [List.mapM_cons, ih fun fd hfd => hl fd (List.mem_cons_of_mem _ hfd), size, hg]
            exact this _ hall
          have hzc' : z.cells = ty.zv.toArray := by rw [← hzc]
          simp only [hf, hu, hz, hpl, hzc']
          exact g1
        · cases h
      · cases h
    · cases h
  · cases h

/-! ### Min and max -/
theorem minSV_is : ∀ {x : LV} {xs : List LV} {v : Value} {vs : List Value} {y : LV}, minSV x xs = some y → VL cx w x v → All2 (VL cx w) xs vs → ∃ u, (vs.foldlM Builtin.min2 v).run P w = .ok u w ∧ VL cx w y u
  | x, [], v, [], y, h, hv, _ => by
    have : x = y := by cases x <;> simpa [minSV] using h
    subst this; exact ⟨v, rfl, hv⟩
  | x, b :: xs, v, u :: vs, y, h, hv, hvs => by
    cases x <;> cases b <;> simp [minSV] at h
    obtain ⟨rfl, h⟩ := h
    have h1 := hv; have h2 := hvs.1
    simp only [VL] at h1 h2
    subst h1; subst h2
    obtain ⟨z, hz, hy⟩ := minSV_is (v := .int _ (N.min _ _)) h rfl hvs.2
    exact ⟨z, by simpa [Builtin.min2, N.min] using hz, hy⟩

theorem maxSV_is : ∀ {x : LV} {xs : List LV} {v : Value} {vs : List Value} {y : LV}, maxSV x xs = some y → VL cx w x v → All2 (VL cx w) xs vs → ∃ u, (vs.foldlM Builtin.max2 v).run P w = .ok u w ∧ VL cx w y u
  | x, [], v, [], y, h, hv, _ => by
    have : x = y := by cases x <;> simpa [maxSV] using h
    subst this; exact ⟨v, rfl, hv⟩
  | x, b :: xs, v, u :: vs, y, h, hv, hvs => by
    cases x <;> cases b <;> simp [maxSV] at h
    obtain ⟨rfl, h⟩ := h
    have h1 := hv; have h2 := hvs.1
    simp only [VL] at h1 h2
    subst h1; subst h2
    obtain ⟨z, hz, hy⟩ := maxSV_is (v := .int _ (N.max _ _)) h rfl hvs.2
    exact ⟨z, by simpa [Builtin.max2, N.max] using hz, hy⟩

theorem leaves_is : ∀ {vs : List SV} {cs : List LV} {us : List Value}, leaves vs = some cs → All2 (VR cx w) vs us → All2 (VL cx w) cs us
  | [], cs, [], h, _ => by simp [leaves] at h; subst h; trivial
  | v :: vs, cs, u :: us, h, hv => by
    cases v <;> simp only [leaves] at h
    case lf c =>
      split at h
      · rename_i ds hds; simp at h; subst h; exact ⟨hv.1, leaves_is hds hv.2⟩
      · cases h
    all_goals cases h

theorem convSV_is (hE : TabOk P E) {s d : TypeId} {si di : TI} (hs : E.ti s = some si) (hsi : si.ty.isSome) (hd : E.ti d = some di) {x : SV} {xv : Value} (hx : VR cx w x xv) {R : Type} {r : R} {K : SV → Option R} (h : convSV di x K = some r) :
    ∃ sv, Hands (fun K => convSV di x K) sv ∧ ∃ v, (convert s d xv).run P w = .ok v w ∧ VR cx w sv v := by
  obtain ⟨ds, hds, hok⟩ := hE.desc hs
  obtain ⟨dd, hdd, hok'⟩ := hE.desc hd
  unfold convSV at h
  split at h
  · rename_i k k' n hag hty
    cases hx
    have hdd' : dd = .int k := by
      have := hE.ty hd hty hag
      rw [hdd] at this; simpa [Ty.desc] using this
    subst hdd'
    refine ⟨.lf (.int k (N.conv k n)), fun K => by simp only [convSV, hag, hty], .int k (k.wrap n), ?_, rfl⟩
    simp [convert, run_underlying hds, run_underlying hdd, Conv.intToInt]
  · rename_i s' hag hty
    cases hx
    have hdd' : dd = .string := by
      have := hE.ty hd hty hag
      rw [hdd] at this; simpa [Ty.desc] using this
    subst hdd'
    refine ⟨.lf (.str s'), fun K => by simp only [convSV, hag, hty], .string s', ?_, rfl⟩
    simp [convert, run_underlying hds, run_underlying hdd]
  · cases h

/-! ## copy -/
/-- the cell of a value of one cell -/
def Ty.one : (e : Ty) → e.den → Value
  | .int k, x => .int k x
  | .bool, x => .bool x
  | .str, x => .string x
  | .pair _ _, _ => .bool false
  | .slice _ _, _ => .bool false
theorem Rd.one {S : Nat → Prop} {e : Ty} {c : List Value} {x : e.den} (hf : e.flat = true) (h1 : e.size = 1) (h : Rd w S e c x) : c = [e.one x] := by
  cases e with
  | int k => exact h
  | bool => exact h
  | str => exact h
  | pair a b => have := a.size_pos; have := b.size_pos; simp [Ty.size] at h1; omega
  | slice E e => simp [Ty.flat] at hf
theorem El.one [Laid] {S : Nat → Prop} {d : Bool} {e : Ty} {c : List Value} {x : e.den} {bs : List Nat} (hf : e.flat = true) (h1 : e.size = 1) (h : El w S d e c x bs) : c = [e.one x] ∧ bs = [] := by
  unfold El at h
  split at h
  · have := h.flat hf
    subst this
    exact ⟨(h.rd (F := fun _ => True) fun _ _ => trivial).one hf h1, rfl⟩
  · exact ⟨h.1.one hf h1, h.2⟩
theorem El.of_one [Laid] {S : Nat → Prop} {d : Bool} {e : Ty} (x : e.den) (hf : e.flat = true) (h1 : e.size = 1) : El w S d e [e.one x] x [] := by
  have hr : Rd w S e [e.one x] x := by
    cases e with
    | int k => rfl
    | bool => rfl
    | str => rfl
    | pair a b => have := a.size_pos; have := b.size_pos; simp [Ty.size] at h1; omega
    | slice E e => simp [Ty.flat] at hf
  exact El.of_flat hr hf
theorem ones_of [Laid] {S : Nat → Prop} {d : Bool} {e : Ty} (hf : e.flat = true) (h1 : e.size = 1) : ∀ {css : List (List Value)} {xs : List e.den} {bss : List (List Nat)}, All3 (El w S d e) css xs bss → css.flatten = xs.map e.one ∧ bss.flatten = []
  | [], [], [], _ => ⟨rfl, rfl⟩
  | c :: css, x :: xs, b :: bss, h => by
    obtain ⟨r1, r2⟩ := ones_of hf h1 h.2
    obtain ⟨q1, q2⟩ := h.1.one hf h1
    simp [q1, q2, r1, r2]
  | [], [], _ :: _, h => h.elim
  | [], _ :: _, _, h => h.elim
  | _ :: _, [], _, h => h.elim
  | _ :: _, _ :: _, [], h => h.elim
theorem of_ones [Laid] {S : Nat → Prop} {d : Bool} {e : Ty} (hf : e.flat = true) (h1 : e.size = 1) : ∀ (xs : List e.den), All3 (El w S d e) (xs.map fun x => [e.one x]) xs (xs.map fun _ => [])
  | [] => trivial
  | x :: xs => ⟨El.of_one x hf h1, of_ones hf h1 xs⟩
theorem ones_flat {e : Ty} : ∀ (xs : List e.den), (xs.map fun x => [e.one x]).flatten = xs.map e.one
  | [] => rfl
  | x :: xs => by simp [ones_flat xs]
theorem nils_flat {α : Type} : ∀ (xs : List α), (xs.map fun _ => ([] : List Nat)).flatten = []
  | [] => rfl
  | x :: xs => by simp [nils_flat xs]
theorem oneCell_one {e : Ty} (x : e.den) : (e.one x).oneCell' = true := by cases e <;> rfl

theorem cpy_take {α : Type} (X Y : List α) (lo : Nat) (cs : List α) (h : lo + cs.length ≤ X.length) : ((X ++ Y).take lo ++ cs ++ (X ++ Y).drop (lo + cs.length)).take X.length = X.take lo ++ cs ++ X.drop (lo + cs.length) := by
  have e1 : (X ++ Y).take lo = X.take lo := List.take_append_of_le_length (by omega)
  have e2 : (X ++ Y).drop (lo + cs.length) = X.drop (lo + cs.length) ++ Y := List.drop_append_of_le_length h
  rw [e1, e2, ← List.append_assoc]
  exact List.take_left' (by simp only [List.length_append, List.length_take, List.length_drop]; omega)

theorem copyTo_core [Laid] (h : RH G M H cx w) {n : Nat} {t ty el : TypeId} {e : Ty} {d : Bool} {ver : Nat} {xs : List e.den} (hn : H n = some (.vec el e d ver xs)) (hf : e.flat = true) (h1 : e.size = 1) (hu : P.underlying t = some (.slice el)) (hsz : (P.info? el).map (·.size) = some 1)
    {lo m : Nat} (hlo : lo + m ≤ xs.length) {A' : Option Addr} {cap' : Nat} (hA : 0 < m → ∃ g cap, (cx.μ n).v = .slice (some ⟨g, 0, none⟩) (cx.μ n).len cap ∧ A' = some ⟨g, lo, none⟩) {F : Nat → Prop} {sv : Value} {ys : List e.den} (hs : Rd w F (.slice el e) [sv] ys) (nx : Nat) :
    ∃ w' cx', (Builtin.copy_ #[t, t] ty #[.slice A' m cap', sv]).run P w = .ok (.int .i64 (Nat.min m ys.length : Nat)) w' ∧ RH G M (fun k => if k = n then some (.vec el e d (ver + 1) (xs.take lo ++ (ys.take m ++ xs.drop (lo + (ys.take m).length)))) else H k) cx' w' ∧ Tr nx nx cx w cx' w' := by
  obtain ⟨hver, hlen, hes, hrow⟩ := h.ob n _ hn
  obtain ⟨A, cap, e1, hcap, hel⟩ := hs
  simp only [List.cons.injEq, and_true] at e1
  subst e1
  by_cases hk : Nat.min ys.length m = 0
  · have hy : ys.take m = [] := by
      rw [List.take_eq_nil_iff]
      have : ys.length = 0 ∨ m = 0 := by
        rcases Nat.eq_zero_or_pos ys.length with h0 | h0
        · exact .inl h0
        · right; simp only [Nat.min_def] at hk; split at hk <;> omega
      rcases this with h0 | h0
      · exact .inr (List.length_eq_zero_iff.1 h0)
      · exact .inl h0
    have hx : xs.take lo ++ (ys.take m ++ xs.drop (lo + (ys.take m).length)) = xs := by rw [hy]; simp
    rw [hx]
    have hmin : (Nat.min m ys.length : Nat) = 0 := by
      simp only [Nat.min_def] at hk ⊢
      split at hk <;> split <;> omega
    obtain ⟨s1, s2⟩ := h.set (w' := w) hn Free.nil nx (.vec el e d (ver + 1) xs) ⟨(cx.μ n).v, (cx.μ n).len, (cx.μ n).es, (cx.μ n).ver + 1, (cx.μ n).foot⟩ ⟨rfl, rfl, rfl, Nat.le_refl _, fun _ _ _ => rfl⟩ ⟨rfl, rfl, rfl, rfl⟩ (fun b hb => .inl hb) (h.nd n _ hn) fun htr =>
      ⟨by rw [hver], hlen, hes, hrow⟩
    refine ⟨w, _, ?_, s1, s2⟩
    rw [run_copy_none w t t ty el A' A m cap' ys.length cap hu hsz hk, hmin]
    rfl
  · have hm : 0 < m := by
      rcases Nat.eq_zero_or_pos m with h0 | h0
      · subst h0; exact absurd (by simp [Nat.min_def]) hk
      · exact h0
    have hyp : 0 < ys.length := by
      rcases Nat.eq_zero_or_pos ys.length with h0 | h0
      · rw [h0] at hk; exact absurd (by simp [Nat.min_def]) hk
      · exact h0
    rcases hrow with ⟨hx, _⟩ | ⟨g, cap2, cur, css, bss, f1, f2, f3, f4, f5, f6, f7, f8⟩
    · rw [hx] at hlo; simp at hlo; omega
    obtain ⟨g', cap3, e2, rfl⟩ := hA hm
    rw [f1] at e2
    simp only [Value.slice.injEq, Option.some.injEq, Addr.mk.injEq, and_true] at e2
    obtain ⟨rfl, _, _⟩ := e2
    obtain ⟨c1, c2⟩ := ones_of hf h1 f8
    rw [c1, h1, Nat.mul_one] at f6
    rw [h1, Nat.mul_one] at f5
    obtain ⟨b0, o0, ci0, e3, _, _, _⟩ := hel 0 hyp
    subst e3
    have hcl : (ys.take m).length = Nat.min m ys.length := List.length_take
    have hkl : Nat.min m ys.length ≤ m := Nat.min_le_left _ _
    have hrun := run_copy_row (P := P) w t t ty el g lo m cap' ⟨b0, o0, none⟩ ys.length cap cur el ((ys.take m).map e.one) hu hsz f2 (by rw [List.length_map, hcl]; exact Nat.min_comm _ _)
      (fun j v hj => by
        rw [List.getElem?_map] at hj
        cases hy : (ys.take m)[j]? with
        | none => rw [hy] at hj; cases hj
        | some y =>
          rw [hy] at hj
          simp only [Option.map_some, Option.some.injEq] at hj
          subst hj
          rw [List.getElem?_take] at hy
          split at hy
          · have hjl : j < ys.length := (List.getElem?_eq_some_iff.1 hy).1
            obtain ⟨b, o, ci, e4, _, hcell, hr⟩ := hel j hjl
            simp only [Option.some.injEq, Addr.mk.injEq, and_true] at e4
            obtain ⟨rfl, rfl⟩ := e4
            have := hr.one hf h1
            have hc := hcell 0 (e.one ys[j]) (by rw [this]; rfl)
            rw [h1, Nat.mul_one, Nat.add_zero] at hc
            have hyj : ys[j] = y := by rw [List.getElem?_eq_getElem hjl] at hy; simpa using hy
            rw [hyj] at hc
            have hadd : (⟨b0, o0, none⟩ : Addr).add j = ⟨b0, o0 + j, none⟩ := by
              unfold Addr.add
              by_cases hj0 : j = 0
              · rw [if_pos hj0, hj0]; rfl
              · rw [if_neg hj0]
            rw [hadd]; exact hc
          · cases hy)
      (by rw [List.length_map, hcl]; omega) (fun v hv => by
        obtain ⟨y, _, rfl⟩ := List.mem_map.1 hv
        exact oneCell_one y)
    have hlx : (xs.take lo ++ (ys.take m ++ xs.drop (lo + (ys.take m).length))).length = xs.length := by simp only [List.length_append, List.length_take, List.length_drop]; omega
    obtain ⟨xs', hxs'⟩ : ∃ z, z = xs.take lo ++ (ys.take m ++ xs.drop (lo + (ys.take m).length)) := ⟨_, rfl⟩
    obtain ⟨cur', hcur'⟩ : ∃ z, z = (cur.toList.take lo ++ (ys.take m).map e.one ++ cur.toList.drop (lo + ((ys.take m).map e.one).length)).toArray := ⟨_, rfl⟩
    rw [← hxs'] at hlx ⊢
    rw [← hcur'] at hrun
    have hsize : cur'.size = cap2 * e.size := by
      have := Array.length_toList (xs := cur)
      rw [h1, Nat.mul_one, ← f5, hcur']
      simp only [List.size_toArray, List.length_append, List.length_take, List.length_map, List.length_drop]
      omega
    have htake : cur'.toList.take (xs'.length * e.size) = (xs'.map fun x => [e.one x]).flatten := by
      have hC : cur.toList = xs.map e.one ++ cur.toList.drop xs.length := by rw [← f6, List.take_append_drop]
      have hXl : (xs.map e.one).length = xs.length := List.length_map _
      have hk := cpy_take (xs.map e.one) (cur.toList.drop xs.length) lo ((ys.take m).map e.one) (by rw [hXl, List.length_map, hcl]; omega)
      rw [← hC, hXl] at hk
      rw [ones_flat, h1, Nat.mul_one, hlx, hcur', hxs']
      show List.take xs.length _ = _
      rw [hk]
      simp only [List.map_append, List.map_take, List.map_drop, List.append_assoc, List.length_map, List.length_take]
    obtain ⟨s1, s2⟩ := h.set (w' := w.setRow g cur') hn Free.nil nx (.vec el e d (ver + 1) xs') ⟨(cx.μ n).v, (cx.μ n).len, (cx.μ n).es, (cx.μ n).ver + 1, (cx.μ n).foot⟩ (setRow_stays w g _ _ (by rw [f7]; simp)) ⟨rfl, rfl, rfl, rfl⟩ (fun b hb => .inl hb) (h.nd n _ hn) fun htr =>
      ⟨by rw [hver], by rw [hlx]; exact hlen, hes, .inr ⟨g, cap2, cur', xs'.map (fun x => [e.one x]), xs'.map (fun _ => []), by rw [hlx]; exact f1, setRow_heap w g cur _ el (0, 0) f2, by rw [hlx]; exact f3, f4, hsize, htake, by rw [nils_flat, f7, c2], of_ones hf h1 _⟩⟩
    refine ⟨_, _, ?_, s1, s2⟩
    rw [hrun, List.length_map, hcl]
    rfl
end
end Go.Sh

namespace Go.Sh
open Go Go.RowKit

def heapOf (os : List Ob) : Heap := fun k => os[k]?

def Enterable (P : Program) (f : FuncId) : Prop := ∃ fn, P.funcs[f]? = some fn ∧ (fn.name == "runtime.NumGoroutine") = false ∧ fn.body.isNone = false

/-- what a call leaves: the results, what was written in place -/
def Final [Laid] (G : Base) (sig : Sig) (cx : Cx) (nio : Nat) (out : sig.outs) (v : Value) (w' : World) : Prop :=
  ∃ cx', VR cx' w' (asOneP sig.rgroups (resOf nio sig.res out).1) v ∧
    RH G (nio + (resOf nio sig.res out).2.length) (heapOf (endOf sig.params (ioOf sig.res out) ++ (resOf nio sig.res out).2)) cx' w' ∧ ∀ k, k < nio → (cx'.μ k).v = (cx.μ k).v

/-- a call at these arguments does what F tells -/
def ContractAt [Laid] (P : Program) (f : FuncId) (sig : Sig) (F : sig.args → Option sig.outs) (a : sig.args) : Prop :=
  ∀ (out : sig.outs) (w : World) (S lent : Nat → Prop) (cx : Cx) (vals : List Value), F a = some out → cx.S = S →
    RH ⟨w, S, lent, (initOf 0 sig.params a).2.length⟩ (initOf 0 sig.params a).2.length (heapOf (initOf 0 sig.params a).2) cx w →
    All2 (VR cx w) (regroup sig.groups (initOf 0 sig.params a).1) vals →
    Calls P f vals.toArray w fun e w' => match e with
      | .returned v => Final ⟨w, S, lent, (initOf 0 sig.params a).2.length⟩ sig cx (initOf 0 sig.params a).2.length out v w'
      | _ => False

def Contract [Laid] (P : Program) (f : FuncId) (sig : Sig) (F : sig.args → Option sig.outs) : Prop := Enterable P f ∧ ∀ a, ContractAt P f sig F a

def EnvOk [Laid] (P : Program) (E : Env) : Prop := ∀ f fs en, E.Γ f fs = some en → Contract P f en.sig en.F

section
variable {cx cx' : Cx} {w w' : World} {G : Base} {M M' nx n' : Nat} {H H' Hm : Heap} {P : Program} {E : Env}

theorem sv_names : ∀ {t : Ty} (x : t.den), (t.sv x).flatMap LV.names = []
  | .int _, _ | .bool, _ | .str, _ | .slice _ _, _ => rfl
  | .pair a b, x => by simp [Ty.sv, List.flatMap_append, sv_names (t := a), sv_names (t := b)]

theorem sv_len : ∀ {t : Ty} (x : t.den), (t.sv x).length = t.size
  | .int _, _ | .bool, _ | .str, _ | .slice _ _, _ => rfl
  | .pair a b, x => by simp [Ty.sv, Ty.size, sv_len (t := a), sv_len (t := b)]

theorem Feet.nil {b : Nat} (h : Feet cx [] b) : cx.S b := by
  rcases h with h | ⟨n, hn, _⟩
  · exact h
  · cases hn

theorem get_all [Laid] (h : RH G M H cx w) (hm : ∀ n o, Hm n = some o → H n = some o) {t : Ty} {cs : List LV} {vs : List Value} {x : t.den} (hg : t.get Hm cs = some (x, [])) (hv : All2 (VL cx w) cs vs) {S : Nat → Prop} (hS : ∀ b, Feet cx (cs.flatMap LV.names) b → S b) : Rd w S t vs x := by
  obtain ⟨v1, v2, rfl, hr, h2, _⟩ := get_sound h hm hg hv
  have : v2 = [] := by cases v2 with
    | nil => rfl
    | cons _ _ => exact h2.elim
  subst this
  simpa using hr.mono hS fun _ _ => rfl

theorem cap_sound [Laid] (h : RH G M H cx w) (hm : ∀ n o, Hm n = some o → H n = some o) {t : Ty} {c : Cap} {x : t.den} (hc : capOf Hm t c = some x) {v : Value} (hv : VC cx w c v) {S : Nat → Prop} (hS : ∀ b, Feet cx (c.reads Hm) b → S b) : CP w S t x 0 v := by
  cases c with
  | ptr n =>
    simp only [capOf] at hc
    split at hc
    · rename_i cs hn
      split at hc
      · rename_i y hg
        simp at hc; subst hc
        obtain ⟨g, cur, T, e1, e2, e3, e4⟩ := h.ob n _ (hm _ _ hn)
        obtain ⟨g', rfl, e5⟩ := hv
        rw [e1] at e5
        simp at e5; subst e5
        have hr := get_all h hm hg e4 (S := S) fun b hb => hS b (by
          rcases hb with hb | ⟨m, hmm, hb⟩
          · exact .inl hb
          · exact .inr ⟨m, by simp only [Cap.reads, hn]; exact List.mem_cons_of_mem _ hmm, hb⟩)
        refine ⟨g, 0, cur.toList, rfl, hS g (.inr ⟨n, by simp [Cap.reads], by simp [e2]⟩), hr, fun j u hu => ?_⟩
        simp [World.cell?, e3]; simpa using hu
      · cases hc
    · cases hc
  | cptr t' x' =>
    simp only [capOf] at hc
    split at hc
    · rename_i y hg
      simp at hc; subst hc
      obtain ⟨b, o, vs, rfl, hb, hr, hcell⟩ := hv
      have hr' := get_all h hm hg (sv_sound hr) (S := S) fun b hb => hS b (by rw [sv_names] at hb; exact .inl (Feet.nil hb))
      exact ⟨b, o, vs, rfl, hS b (.inl hb), hr', hcell⟩
    · cases hc

theorem caps_sound [Laid] (h : RH G M H cx w) (hm : ∀ n o, Hm n = some o → H n = some o) {cx0 : Cx} : ∀ {ts : List Ty} {cs : List Cap} {x : Tup (ts.map Ty.den)} {vs : List Value}, capsOf Hm ts cs = some x → All2 (VC cx w) cs vs → (∀ b, Feet cx (cs.flatMap (Cap.reads Hm)) b → cx0.S b) →
    All2 (VC cx0 w) (initOf.caps ts x) vs
  | [], [], x, [], _, _, _ => trivial
  | [], _ :: _, _, _, h0, _, _ => by simp [capsOf] at h0
  | _ :: _, [], _, _, h0, _, _ => by simp [capsOf] at h0
  | t :: ts, c :: cs, x, v :: vs, h0, hv, hS => by
    simp only [capsOf] at h0
    split at h0
    · rename_i y hy
      split at h0
      · rename_i r hr
        simp at h0; subst h0
        have hhd : Tup.hd (a := t.den) (Tup.cons y r) = y := by cases ts <;> rfl
        have htl : Tup.tl (a := t.den) (Tup.cons y r) = r := by cases ts <;> rfl
        refine ⟨?_, ?_⟩
        · show CP w cx0.S t _ 0 v
          rw [hhd]
          exact cap_sound h hm hy hv.1 fun b hb => hS b (hb.mono fun n hn => by simp [hn])
        · rw [htl]
          exact caps_sound h hm hr hv.2 fun b hb => hS b (hb.mono fun n hn => by rw [List.flatMap_cons]; exact List.mem_append_right _ hn)
      · cases h0
    · cases h0

/-- a row or box that is lent, and what comes back in it -/
def LentOb (P : List PTy) (o : Ob) (e : Ob) : Prop :=
  (∃ E e' d ver xs xs', o = .vec E e' d ver xs ∧ (d = true ∨ e'.flat = true) ∧ e = .vec E e' true 0 xs') ∨ ∃ cs t x', o = .box cs ∧ e = .box (Ty.sv t x') ∧ PTy.ioptr t ∈ P

theorem Tup.hd_cons {a : Type} {l : List Type} (x : a) (r : Tup l) : Tup.hd (Tup.cons x r) = x := by cases l <;> rfl
theorem Tup.tl_cons {a : Type} {l : List Type} (x : a) (r : Tup l) : Tup.tl (Tup.cons x r) = r := by cases l <;> rfl

theorem args_sound [Laid] (h : RH G M H cx w) (hm : ∀ n o, Hm n = some o → H n = some o) {wr : Nat → Bool} {cx0 : Cx} : ∀ {ps : List PTy} {svs : List SV} {vals : List Value} {a : Tup (ps.map PTy.den)} {ns rs : List Nat} {nx : Nat},
    argsOf Hm wr ps svs = some (a, ns, rs) → All2 (VR cx w) svs vals → (∀ b, Feet cx rs b → cx0.S b) → (∀ (k n : Nat), ns[k]? = some n → cx0.μ (nx + k) = { cx.μ n with ver := 0 }) →
    All2 (VR cx0 w) (initOf nx ps a).1 vals ∧ (initOf nx ps a).2.length = ns.length ∧ (∀ (k n : Nat) (o : Ob), ns[k]? = some n → (initOf nx ps a).2[k]? = some o → ObR cx0 w { cx.μ n with ver := 0 } o) ∧
      (∀ n ∈ ns, ∃ o, Hm n = some o ∧ wr n = true) ∧ (∀ o : Tup (ioTys ps), (endOf ps o).length = ns.length ∧ ∀ (k n : Nat) (e : Ob), ns[k]? = some n → (endOf ps o)[k]? = some e → ∃ o, Hm n = some o ∧ LentOb ps o e)
  | [], [], [], a, ns, rs, nx, h0, _, _, _ => by
    simp [argsOf] at h0; obtain ⟨_, rfl, rfl⟩ := h0
    exact ⟨trivial, rfl, fun k n o hk => by simp at hk, (fun n hn => by cases hn), fun o => ⟨rfl, fun k n e hk => by simp at hk⟩⟩
  | [], _ :: _, _, _, _, _, _, h0, _, _, _ => by simp [argsOf] at h0
  | _ :: _, [], _, _, _, _, _, h0, _, _, _ => by simp [argsOf] at h0
  | p :: ps, s :: svs, v :: vals, a, ns, rs, nx, h0, hv, hS, hμ => by
    simp only [argsOf] at h0
    split at h0
    · rename_i x ns1 rs1 h1
      split at h0
      · rename_i r ns2 rs2 h2
        simp at h0; obtain ⟨rfl, rfl, rfl⟩ := h0
        have hS1 : ∀ b, Feet cx rs1 b → cx0.S b := fun b hb => hS b (hb.mono fun n hn => List.mem_append_left _ hn)
        have hS2 : ∀ b, Feet cx rs2 b → cx0.S b := fun b hb => hS b (hb.mono fun n hn => List.mem_append_right _ hn)
        have plain : ∀ {n}, ns1 = [] → n = nx → _ := fun {n} e1 e2 => by
          subst e1; subst e2
          exact args_sound h hm (nx := n) h2 hv.2 hS2 (fun k n hk => hμ k n (by simpa using hk))
        have mem : ∀ {o e}, LentOb ps o e → LentOb (p :: ps) o e := fun hl => by
          rcases hl with hl | ⟨cs, t, x', e1, e2, e3⟩
          · exact .inl hl
          · exact .inr ⟨cs, t, x', e1, e2, List.mem_cons_of_mem _ e3⟩
        cases p with
        | val agg t =>
          have hx : VR cx0 w (pack agg (t.sv x)) v ∧ ns1 = [] := by
            cases agg with
            | true =>
              cases s <;> simp only [argOf] at h1 <;> try (cases h1; done)
              rename_i cs
              split at h1
              · rename_i y hg
                simp at h1; obtain ⟨rfl, rfl, rfl⟩ := h1
                obtain ⟨vs, e1, hvs⟩ := hv.1
                exact ⟨⟨vs, e1, sv_sound (get_all h hm hg hvs hS1)⟩, rfl⟩
              · cases h1
            | false =>
              cases s <;> simp only [argOf] at h1 <;> try (cases h1; done)
              rename_i c
              split at h1
              · rename_i y hg
                simp at h1; obtain ⟨rfl, rfl, rfl⟩ := h1
                have hr := get_all h hm hg (vs := [v]) ⟨hv.1, trivial⟩ (S := cx0.S) fun b hb => hS1 b (by simpa using hb)
                have hs := sv_sound (cx := cx0) hr
                have hl := sv_len y
                rw [hs.len] at hl
                obtain ⟨c', hc'⟩ : ∃ c', t.sv y = [c'] := List.length_eq_one_iff.1 (by rw [hs.len]; rfl)
                rw [hc'] at hs ⊢
                exact ⟨hs.1, rfl⟩
              · cases h1
          obtain ⟨hx, rfl⟩ := hx
          obtain ⟨i1, i2, i3, i4, i5⟩ := plain rfl rfl
          simp only [initOf, Tup.hd_cons, Tup.tl_cons]
          exact ⟨⟨hx, i1⟩, by simpa using i2, fun k n o hk ho => i3 k n o (by simpa using hk) ho, fun n hn => i4 n (by simpa using hn), fun o => ⟨by simpa [endOf] using (i5 o).1, fun k n e hk he => by
            obtain ⟨o', h3, h4⟩ := (i5 o).2 k n e (by simpa using hk) (by simpa [endOf] using he); exact ⟨o', h3, mem h4⟩⟩⟩
        | cptr t =>
          have hx : VR cx0 w (.lf (.cptr t x 0)) v ∧ ns1 = [] := by
            cases s <;> simp only [argOf] at h1 <;> try (cases h1; done)
            rename_i c
            split at h1
            · rename_i cp hcp
              split at h1
              · rename_i y hy
                simp at h1; obtain ⟨rfl, rfl, rfl⟩ := h1
                have hvc : VC cx w cp v := by
                  unfold LV.cap at hcp
                  split at hcp
                  · rename_i n
                    simp at hcp; subst hcp
                    obtain ⟨g, e1, rfl⟩ := hv.1
                    exact ⟨g, rfl, e1⟩
                  · simp at hcp; subst hcp; exact hv.1
                  · cases hcp
                exact ⟨cap_sound h hm hy hvc hS1, rfl⟩
              · cases h1
            · cases h1
          obtain ⟨hx, rfl⟩ := hx
          obtain ⟨i1, i2, i3, i4, i5⟩ := plain rfl rfl
          simp only [initOf, Tup.hd_cons, Tup.tl_cons]
          exact ⟨⟨hx, i1⟩, by simpa using i2, fun k n o hk ho => i3 k n o (by simpa using hk) ho, fun n hn => i4 n (by simpa using hn), fun o => ⟨by simpa [endOf] using (i5 o).1, fun k n e hk he => by
            obtain ⟨o', h3, h4⟩ := (i5 o).2 k n e (by simpa using hk) (by simpa [endOf] using he); exact ⟨o', h3, mem h4⟩⟩⟩
        | fn f ts =>
          have hx : VR cx0 w (.lf (.fn f (initOf.caps ts x))) v ∧ ns1 = [] := by
            cases s <;> simp only [argOf] at h1 <;> try (cases h1; done)
            rename_i c
            cases c <;> simp only [argOf] at h1 <;> try (cases h1; done)
            rename_i g cs
            split at h1
            · rename_i hfg
              subst hfg
              split at h1
              · rename_i y hy
                simp at h1; obtain ⟨rfl, rfl, rfl⟩ := h1
                obtain ⟨vs, e1, hvs⟩ := hv.1
                exact ⟨⟨vs, e1, caps_sound h hm hy hvs hS1⟩, rfl⟩
              · cases h1
            · cases h1
          obtain ⟨hx, rfl⟩ := hx
          obtain ⟨i1, i2, i3, i4, i5⟩ := plain rfl rfl
          simp only [initOf, Tup.hd_cons, Tup.tl_cons]
          exact ⟨⟨hx, i1⟩, by simpa using i2, fun k n o hk ho => i3 k n o (by simpa using hk) ho, fun n hn => i4 n (by simpa using hn), fun o => ⟨by simpa [endOf] using (i5 o).1, fun k n e hk he => by
            obtain ⟨o', h3, h4⟩ := (i5 o).2 k n e (by simpa using hk) (by simpa [endOf] using he); exact ⟨o', h3, mem h4⟩⟩⟩
        | io Et e =>
          cases s <;> simp only [argOf] at h1 <;> try (cases h1; done)
          rename_i c
          cases c <;> simp only [argOf] at h1 <;> try (cases h1; done)
          rename_i n
          split at h1
          · rename_i E' e' d ver xs0 hn
            split at h1
            · rename_i hc
              split at h1
              · rename_i xs hxs
                simp at h1; obtain ⟨rfl, rfl, rfl⟩ := h1
                obtain ⟨rfl, rfl, rfl⟩ := asRows_some hxs
                simp only [Bool.and_eq_true, Bool.or_eq_true] at hc
                have hμ0 : cx0.μ nx = { cx.μ n with ver := 0 } := hμ 0 n (by simp)
                obtain ⟨i1, i2, i3, i4, i5⟩ := args_sound h hm (nx := nx + 1) (cx0 := cx0) h2 hv.2 hS2 (fun k m hk => by
                  have := hμ (k + 1) m (by simpa using hk)
                  rw [← this]; congr 1; omega)
                obtain ⟨hvr, hl, hes, hrow⟩ := h.ob n _ (hm _ _ hn)
                have hob : ObR cx0 w { cx.μ n with ver := 0 } (.vec E' e' true 0 (castL rfl xs0)) := by
                  refine ⟨rfl, hl, hes, ?_⟩
                  rcases hc.2 with rfl | hf
                  · exact hrow
                  · refine hrow.mono (fun _ _ => rfl) fun c x bs _ hE => ?_
                    unfold El at hE ⊢
                    simp only [if_true]
                    split at hE
                    · exact hE
                    · rw [hE.2]; exact hE.1.flat hf
                simp only [initOf, Tup.hd_cons, Tup.tl_cons]
                refine ⟨⟨⟨by rw [hμ0]; exact hv.1.1, hv.1.2⟩, i1⟩, by simp [i2], fun k m o hk ho => ?_, fun m hmn => ?_, fun o => ⟨by simp [endOf, (i5 (Tup.tl o)).1], fun k m q hk hq => ?_⟩⟩
                · cases k with
                  | zero => simp at hk ho; subst hk; subst ho; exact hob
                  | succ k => exact i3 k m o (by simpa using hk) (by simpa using ho)
                · rcases List.mem_cons.1 hmn with rfl | hmn
                  · exact ⟨_, hn, hc.1⟩
                  · exact i4 m hmn
                · cases k with
                  | zero => simp [endOf] at hk hq; subst hk; subst hq; exact ⟨_, hn, .inl ⟨_, _, _, _, _, _, rfl, hc.2, rfl⟩⟩
                  | succ k =>
                    obtain ⟨o', h3, h4⟩ := (i5 (Tup.tl o)).2 k m q (by simpa using hk) (by simpa [endOf] using hq)
                    exact ⟨o', h3, mem h4⟩
              · cases h1
            · cases h1
          · cases h1
        | ioptr t =>
          cases s <;> simp only [argOf] at h1 <;> try (cases h1; done)
          rename_i c
          cases c <;> (try simp only [argOf] at h1) <;> try (cases h1; done)
          rename_i n off
          have hoff : off = 0 := by
            cases off with
            | zero => rfl
            | succ k => exact absurd (show (none : Option _) = _ from h1) (by simp)
          subst hoff
          simp only [argOf] at h1
          split at h1
          · rename_i cs hn
            split at h1
            · rename_i hw
              split at h1
              · rename_i y hg
                simp at h1; obtain ⟨rfl, rfl, rfl⟩ := h1
                have hμ0 : cx0.μ nx = { cx.μ n with ver := 0 } := hμ 0 n (by simp)
                obtain ⟨i1, i2, i3, i4, i5⟩ := args_sound h hm (nx := nx + 1) (cx0 := cx0) h2 hv.2 hS2 (fun k m hk => by
                  have := hμ (k + 1) m (by simpa using hk)
                  rw [← this]; congr 1; omega)
                obtain ⟨g, cur, T, e1, e2, e3, e4⟩ := h.ob n _ (hm _ _ hn)
                have hob : ObR cx0 w { cx.μ n with ver := 0 } (.box (t.sv y)) := ⟨g, cur, T, e1, e2, e3, sv_sound (get_all h hm hg e4 hS1)⟩
                simp only [initOf, Tup.hd_cons, Tup.tl_cons]
                obtain ⟨g', e5, e6⟩ := hv.1
                refine ⟨⟨⟨g', by rw [hμ0]; exact e5, e6⟩, i1⟩, by simp [i2], fun k m o hk ho => ?_, fun m hmn => ?_, fun o => ⟨by simp [endOf, (i5 (Tup.tl o)).1], fun k m q hk hq => ?_⟩⟩
                · cases k with
                  | zero => simp at hk ho; subst hk; subst ho; exact hob
                  | succ k => exact i3 k m o (by simpa using hk) (by simpa using ho)
                · rcases List.mem_cons.1 hmn with rfl | hmn
                  · exact ⟨_, hn, hw⟩
                  · exact i4 m hmn
                · cases k with
                  | zero => simp [endOf] at hk hq; subst hk; subst hq; exact ⟨_, hn, .inr ⟨_, t, _, rfl, rfl, by simp⟩⟩
                  | succ k =>
                    obtain ⟨o', h3, h4⟩ := (i5 (Tup.tl o)).2 k m q (by simpa using hk) (by simpa [endOf] using hq)
                    exact ⟨o', h3, mem h4⟩
              · cases h1
            · cases h1
          · cases h1
      · cases h0
    · cases h0

/-- 'copy' into a row -/
theorem convS_is [Laid] (hE : TabOk P E) (h : RH G M H cx w) (hm : ∀ n o, Hm n = some o → H n = some o) {s d : TypeId} {si di : TI} (hs : E.ti s = some si) (hsi : si.ty.isSome) (hd : E.ti d = some di) {x : SV} {xv : Value} (hx : VR cx w x xv) {R : Type} {r : R} {K : SV → Option R} (hh : convS E Hm s di x K = some r) :
    ∃ sv, Hands (fun K => convS E Hm s di x K) sv ∧ ∃ v, (convert s d xv).run P w = .ok v w ∧ VR cx w sv v := by
  unfold convS at hh
  split at hh
  · rename_i el ei c hel hty
    split at hh
    · rename_i hag
      split at hh
      · rename_i ys hys
        obtain ⟨hu, hes, _⟩ := hE.elem hel
        obtain ⟨_, hti, hty', _⟩ := hE.slice hel
        have hue := hE.ty hti hty' hag.1
        have hud := hE.ty hd hty hag.2
        have hg : (Ty.slice el (.int .u8)).get Hm [c] = some (ys, []) := by simp only [Ty.get, hys]
        have hrd : Rd w (fun _ => True) (.slice el (.int .u8)) [xv] ys := get_all (vs := [xv]) h hm hg ⟨hx, trivial⟩ fun _ _ => trivial
        obtain ⟨A, cap, e1, hcap, hcell⟩ := hrd
        simp only [List.cons.injEq, and_true] at e1
        subst e1
        refine ⟨.lf (.str (N.ofBytes ys)), fun K => by simp only [convS, hel, hty, hys]; rw [if_pos hag], .string (N.ofBytes ys), ?_, rfl⟩
        rw [run_convert_bytes_string w s d el A ys.length cap hu (by simpa [Ty.desc] using hue) (by simpa [Ty.desc] using hud)]
        cases A with
        | none =>
          have : ys = [] := by
            cases ys with
            | nil => rfl
            | cons y ys => obtain ⟨b, o, ci, e2, _⟩ := hcell 0 (by simp); cases e2
          subst this
          simp [Conv.bytesToString, Sem.run_pure, N.ofBytes]
        | some a =>
          refine run_bytesToString w a ys.length cap ys ?_
          have := run_loadCells_list (P := P) (w := w) a (ys.map (Value.int .u8)) fun j v hj => by
            rw [List.getElem?_map] at hj
            have hjl : j < ys.length := by
              false_or_by_contra
              rw [List.getElem?_eq_none (by omega)] at hj; cases hj
            rw [List.getElem?_eq_getElem hjl] at hj
            simp only [Option.map_some, Option.some.injEq] at hj
            subst hj
            obtain ⟨b, o, ci, e2, _, hcl, hr⟩ := hcell j hjl
            simp only [Option.some.injEq] at e2
            subst e2
            have hr : ci = [Value.int .u8 ys[j]] := hr
            have := hcl 0 (.int .u8 ys[j]) (by rw [hr]; rfl)
            have e3 : o + j * (Ty.int .u8).size + 0 = o + j := by show o + j * 1 + 0 = o + j; omega
            rw [e3] at this
            have e4 : (⟨b, o, none⟩ : Addr).add j = ⟨b, o + j, none⟩ := by
              unfold Addr.add
              split
              · rename_i hj0; subst hj0; rfl
              · rfl
            rw [e4]
            exact this
          rw [List.length_map] at this
          exact this
      · cases hh
    · cases hh
  · rename_i x hn
    obtain ⟨sv, hK, g⟩ := convSV_is hE hs hsi hd hx hh
    refine ⟨sv, fun K => ?_, g⟩
    show convS E Hm s di _ K = K sv
    rw [← hK K]
    unfold convS
    split
    · exact (hn _ _ _ (by assumption) (by assumption) rfl).elim
    · rfl
theorem copySV_is [Laid] (hE : TabOk P E) (h : RH G M H cx w) (hm : ∀ n o, Hm n = some o → H n = some o) {wr : Nat → Bool} {t ty : TypeId} {d s : SV} {dv sv : Value} (hd : VR cx w d dv) (hs : VR cx w s sv) {R : Type} {r : R} {K : SV → Upd → Option R} (hh : copySV E Hm wr t d s K = some r) :
    ∃ x u, (∀ {R : Type} (K : SV → Upd → Option R), copySV E Hm wr t d s K = K x u) ∧ ∃ v w' cx', (Builtin.copy_ #[t, t] ty #[dv, sv]).run P w = .ok v w' ∧ VR cx' w' x v ∧ RH G M (H.upd u) cx' w' ∧ Tr nx nx cx w cx' w' := by
  unfold copySV at hh
  split at hh
  · rename_i el ei e d s hel
    split at hh
    · rename_i hc
      have hc' := hc
      simp only [Bool.and_eq_true] at hc'
      obtain ⟨hf, h1⟩ := hc'
      have h1 : e.size = 1 := Nat.eq_of_beq_eq_true h1
      obtain ⟨hu, hes, _⟩ := hE.elem hel
      obtain ⟨_, hti, hty, _⟩ := hE.slice hel
      obtain ⟨fi, hfi, hfs, _⟩ := hE.info hti
      have hsz : (P.info? el).map (·.size) = some 1 := by rw [hfi, Option.map_some, hfs, ← hes, h1]
      split at hh
      · cases hh
      · rename_i ys hys
        have hg : (Ty.slice el e).get Hm [s] = some (ys, []) := by simp only [Ty.get, hys]
        have hrd : Rd w (fun _ => True) (.slice el e) [sv] ys := get_all (vs := [sv]) h hm hg ⟨hs, trivial⟩ fun _ _ => trivial
        have fin : ∀ {n : Nat} {dd : Bool} {ver : Nat} {xs : List e.den}, Hm n = some (.vec el e dd ver xs) → ∀ (lo m : Int), 0 ≤ lo → 0 ≤ m → lo + m ≤ (xs.length : Int) → ∀ {A' : Option Addr} {cap' : Nat}, dv = .slice A' m.toNat cap' → (0 < m.toNat → ∃ g cap, (cx.μ n).v = .slice (some ⟨g, 0, none⟩) (cx.μ n).len cap ∧ A' = some ⟨g, lo.toNat, none⟩) →
            ∃ v w' cx', (Builtin.copy_ #[t, t] ty #[dv, sv]).run P w = .ok v w' ∧ VR cx' w' (.lf (.int .i64 (N.min m (N.len ys)))) v ∧ RH G M (H.upd [(n, some (.vec el e dd (ver + 1) (N.cpy xs lo m ys)))]) cx' w' ∧ Tr nx nx cx w cx' w' := fun {n dd ver xs} hn lo m h0 h2 h3 {A' cap'} hdv hA => by
          subst hdv
          obtain ⟨w', cx', e1, e2, e3⟩ := copyTo_core (t := t) (ty := ty) h (hm _ _ hn) hf h1 hu hsz (lo := lo.toNat) (m := m.toNat) (cap' := cap') (by omega) hA hrd nx
          refine ⟨_, w', cx', e1, ?_, e2, e3⟩
          show Value.int .i64 _ = Value.int .i64 _
          congr 1
          unfold N.min N.len
          simp only [Nat.min_def]
          split <;> split <;> omega
        split at hh
        · rename_i n
          unfold copyTo at hh
          split at hh
          · rename_i E' e' dd ver xs0 hn
            split at hh
            · rename_i xs hxs
              split at hh
              · rename_i hw
                obtain ⟨rfl, rfl, rfl⟩ := asRows_some hxs
                obtain ⟨rfl, A0, l0, c0, _⟩ := hd
                obtain ⟨hver, hl, hes2, hrow⟩ := h.ob n _ (hm _ _ hn)
                have hq : ∃ A' cap', (cx.μ n).v = .slice A' (N.len xs0).toNat cap' ∧ (0 < (N.len xs0).toNat → ∃ g cap, (cx.μ n).v = .slice (some ⟨g, 0, none⟩) (cx.μ n).len cap ∧ A' = some ⟨g, (0 : Int).toNat, none⟩) := by
                  have hln : (N.len xs0).toNat = xs0.length := by simp [N.len]
                  rw [hln]
                  rcases hrow with ⟨hx, ⟨A, hA⟩, _⟩ | ⟨g, cap2, cur, css, bss, f1, f2, f3, f4, f5, f6, f7, f8⟩
                  · exact ⟨A, 0, by rw [hA, hx]; rfl, fun h' => by rw [hx] at h'; simp at h'⟩
                  · exact ⟨_, cap2, f1, fun _ => ⟨g, cap2, by rw [f1, hl], rfl⟩⟩
                obtain ⟨A', cap', q1, q2⟩ := hq
                exact ⟨_, _, fun K => by simp only [copySV, hel, hys, copyTo, hn, hxs]; rw [if_pos hc, if_pos hw]; rfl, fin hn 0 (N.len xs0) (by omega) (by simp [N.len]) (by simp [N.len]) q1 q2⟩
              · cases hh
            · cases hh
          · cases hh
        · rename_i n lo hi
          unfold copyTo at hh
          split at hh
          · rename_i E' e' dd ver xs0 hn
            split at hh
            · rename_i xs hxs
              split at hh
              · rename_i hw
                obtain ⟨rfl, rfl, rfl⟩ := asRows_some hxs
                obtain ⟨d0, d1, d2, A, cap, A', d3, d4, d5, d6, d7⟩ := hd
                obtain ⟨hver, hl, hes2, hrow⟩ := h.ob n _ (hm _ _ hn)
                refine ⟨_, _, fun K => by simp only [copySV, hel, hys, copyTo, hn, hxs]; rw [if_pos hc, if_pos hw]; rfl, fin hn lo (N.diff hi lo) d0 (by simp only [N.diff]; omega) (by simp only [N.diff]; rw [← hl]; omega) d5 fun hp => ?_⟩
                obtain ⟨b, o, rfl, rfl⟩ := d7 (by simp only [N.diff] at hp; omega)
                rcases hrow with ⟨hx, ⟨A2, hA2⟩, _⟩ | ⟨g, cap2, cur, css, bss, f1, f2, f3, f4, f5, f6, f7, f8⟩
                · rw [hx] at hl
                  simp only [N.diff] at hp
                  simp at hl
                  omega
                · have f1' := f1
                  rw [d3] at f1'
                  simp only [Value.slice.injEq, Option.some.injEq, Addr.mk.injEq, and_true] at f1'
                  obtain ⟨⟨rfl, rfl⟩, _, _⟩ := f1'
                  exact ⟨b, cap, d3, by rw [hes2, h1]; simp⟩
              · cases hh
            · cases hh
          · cases hh
        · cases hh
    · cases hh
  · cases hh
end
end Go.Sh

namespace Go.Sh
open Go Go.RowKit

section
variable {cx cx' : Cx} {w w' : World} {G : Base} {M M' nx n' : Nat} {H H' Hm : Heap} {P : Program} {E : Env}

theorem distinct_spec : ∀ {l : List Nat}, distinct l = true → l.Nodup
  | [], _ => List.nodup_nil
  | n :: r, h => by
    simp only [distinct, Bool.and_eq_true, Bool.not_eq_true', List.contains_eq_mem, decide_eq_false_iff_not] at h
    exact List.nodup_cons.2 ⟨h.1, distinct_spec h.2⟩

theorem nodup_idx {l : List Nat} (h : l.Nodup) {i j n : Nat} (hi : l[i]? = some n) (hj : l[j]? = some n) : i = j := by
  obtain ⟨h1, e1⟩ := List.getElem?_eq_some_iff.1 hi
  obtain ⟨h2, e2⟩ := List.getElem?_eq_some_iff.1 hj
  rcases Nat.lt_trichotomy i j with hlt | heq | hlt
  · exact absurd (e1.trans e2.symm) (List.pairwise_iff_getElem.1 h i j h1 h2 hlt)
  · exact heq
  · exact absurd (e2.trans e1.symm) (List.pairwise_iff_getElem.1 h j i h2 h1 hlt)

theorem upd_numbered (H : Heap) : ∀ (os : List Ob) (nx m : Nat), H.upd (numbered nx os) m = if nx ≤ m ∧ m < nx + os.length then os[m - nx]? else H m
  | [], nx, m => by simp [numbered, Heap.upd]; omega
  | o :: os, nx, m => by
    show Heap.upd _ (numbered (nx + 1) os) m = _
    rw [upd_numbered _ os (nx + 1) m]
    by_cases h1 : m = nx
    · subst h1; simp; omega
    · by_cases h2 : nx + 1 ≤ m ∧ m < nx + 1 + os.length
      · rw [if_pos h2, if_pos (by simp; omega)]
        rw [show m - nx = (m - (nx + 1)) + 1 by omega]; simp
      · rw [if_neg h2, if_neg (show ¬(nx ≤ m ∧ m < nx + (o :: os).length) by rw [List.length_cons]; omega), if_neg h1]

/-- a lent row's new content -/
def backOb (o : Option Ob) (e : Ob) : Ob := match o, e with
  | some (.vec _ _ d ver _), .vec E e _ _ xs => .vec E e d (ver + 1) xs
  | _, o => o

theorem lendBack_names (Hm : Heap) : ∀ (ns : List Nat) (os : List Ob), ∀ m ∈ Upd.names (lendBack Hm ns os), m ∈ ns
  | [], _, m, h => by simp [lendBack, Upd.names] at h
  | _ :: _, [], m, h => by simp [lendBack, Upd.names] at h
  | n :: ns, o :: os, m, h => by
    simp only [lendBack, Upd.names, List.map_cons, List.mem_cons] at h
    rcases h with h | h
    · simp [h]
    · exact List.mem_cons_of_mem _ (lendBack_names Hm ns os m h)

theorem upd_lendBack [Laid] (Hm : Heap) : ∀ (H : Heap) (ns : List Nat) (os : List Ob), ns.Nodup → os.length = ns.length → ∀ (k n : Nat) (o : Ob), ns[k]? = some n → os[k]? = some o → H.upd (lendBack Hm ns os) n = some (backOb (Hm n) o)
  | H, [], _, _, _, k, n, o, hk, _ => by simp at hk
  | H, _ :: _, [], _, hl, _, _, _, _, _ => by simp at hl
  | H, m :: ns, o' :: os, hnd, hl, k, n, o, hk, ho => by
    rw [List.nodup_cons] at hnd
    show Heap.upd _ (lendBack Hm ns os) n = _
    cases k with
    | zero =>
      simp at hk ho; subst hk; subst ho
      rw [Heap.upd_other _ _ fun h => hnd.1 (lendBack_names Hm ns os _ h)]
      simp only [if_true, backOb]
      congr 1
    | succ k =>
      exact upd_lendBack Hm _ ns os hnd.2 (by simpa using hl) k n o (by simpa using hk) (by simpa using ho)

/-- leaves of a native value: in other memory -/
theorem sv_move {S S' : Nat → Prop} {cx1 cx2 : Cx} (h1 : cx1.S = S) (h2 : cx2.S = S') : ∀ {t : Ty} {x : t.den} {vs : List Value}, (t.flat = true ∨ ∀ b, S b → S' b) → All2 (VL cx1 w) (t.sv x) vs → All2 (VL cx2 w) (t.sv x) vs
  | .int _, x, vs, _, h => h.mono fun c hc v hv => by simp [Ty.sv] at hc; subst hc; exact hv
  | .bool, x, vs, _, h => h.mono fun c hc v hv => by simp [Ty.sv] at hc; subst hc; exact hv
  | .str, x, vs, _, h => h.mono fun c hc v hv => by simp [Ty.sv] at hc; subst hc; exact hv
  | .slice Et e, x, vs, hf, h => h.mono fun c hc v hv => by
    simp [Ty.sv] at hc; subst hc
    rcases hf with hf | hf
    · simp [Ty.flat] at hf
    · exact Rd.mono (fun b hb => by rw [h2]; exact hf b (by rw [h1] at hb; exact hb)) (fun _ _ => rfl) hv
  | .pair a b, x, vs, hf, h => by
    obtain ⟨v1, v2, rfl, ha, hb⟩ := All2.split (show All2 (VL cx1 w) (a.sv x.1 ++ b.sv x.2) vs from h)
    exact (sv_move h1 h2 (hf.imp (fun h => by simp [Ty.flat] at h; exact h.1) id) ha).append (sv_move h1 h2 (hf.imp (fun h => by simp [Ty.flat] at h; exact h.2) id) hb)

def RTy.apart : RTy → Bool
  | .val _ t => t.flat
  | .row _ e d => d || e.flat
  | .ptr t => t.flat

theorem El.move {S S' : Nat → Prop} {d : Bool} {e : Ty} {c : List Value} {x : e.den} {bs : List Nat} (hf : (d || e.flat) = true ∨ ∀ b, S b → S' b) (h : El w S d e c x bs) : El w S' d e c x bs := by
  unfold El at *
  cases d with
  | true => exact h
  | false =>
    simp at h hf ⊢
    rcases hf with hf | hf
    · exact ⟨(h.1.flat hf).rd fun b hb => (by cases hb), h.2⟩
    · exact ⟨h.1.mono hf fun _ _ => rfl, h.2⟩

/-- one after another, results read alike in two places -/
def LikeR (cx1 cx2 : Cx) (w : World) (A B : List (Bool × List LV)) : Prop := ∀ (k : Nat) (t t' : Bool × List LV), A[k]? = some t → B[k]? = some t' → t.1 = t'.1 ∧ t.2.length = t'.2.length ∧ ∀ us, All2 (VL cx1 w) t.2 us → All2 (VL cx2 w) t'.2 us

theorem LikeR.tail {cx1 cx2 : Cx} {t t' : Bool × List LV} {A B : List (Bool × List LV)} (h : LikeR cx1 cx2 w (t :: A) (t' :: B)) : LikeR cx1 cx2 w A B := fun k s s' hs hs' => h (k + 1) s s' (by simpa using hs) (by simpa using hs')

theorem flat_move [Laid] {cx1 cx2 : Cx} : ∀ {A B : List (Bool × List LV)}, A.length = B.length → LikeR cx1 cx2 w A B → (A.flatMap (·.2)).length = (B.flatMap (·.2)).length ∧ ∀ us, All2 (VL cx1 w) (A.flatMap (·.2)) us → All2 (VL cx2 w) (B.flatMap (·.2)) us
  | [], [], _, _ => ⟨rfl, fun us h => by cases us with
    | nil => trivial
    | cons _ _ => exact h.elim⟩
  | [], _ :: _, h, _ => by simp at h
  | _ :: _, [], h, _ => by simp at h
  | t :: A, t' :: B, hl, h => by
    obtain ⟨h1, h2, h3⟩ := h 0 t t' rfl rfl
    obtain ⟨g1, g2⟩ := flat_move (A := A) (B := B) (by simpa using hl) h.tail
    refine ⟨by simp only [List.flatMap_cons, List.length_append, h2, g1], fun us hv => ?_⟩
    rw [List.flatMap_cons] at hv ⊢
    obtain ⟨u1, u2, rfl, ha, hb⟩ := All2.split hv
    exact (h3 u1 ha).append (g2 u2 hb)

theorem regroupR_rel [Laid] {cx1 cx2 : Cx} : ∀ {g : List (Option Nat)} {A B : List (Bool × List LV)}, A.length = B.length → LikeR cx1 cx2 w A B → (regroupR g A).length = (regroupR g B).length ∧ LikeR cx1 cx2 w (regroupR g A) (regroupR g B)
  | [], _, _, hl, h => ⟨hl, h⟩
  | none :: g, [], [], _, _ => ⟨rfl, fun k t t' h => by simp [regroupR] at h⟩
  | none :: g, [], _ :: _, hl, _ => by simp at hl
  | none :: g, _ :: _, [], hl, _ => by simp at hl
  | none :: g, t :: A, t' :: B, hl, h => by
    obtain ⟨g1, g2⟩ := regroupR_rel (g := g) (A := A) (B := B) (by simpa using hl) h.tail
    refine ⟨by simp [regroupR, g1], fun k s s' hs hs' => ?_⟩
    simp only [regroupR] at hs hs'
    cases k with
    | zero => simp at hs hs'; subst hs; subst hs'; exact h 0 t t' rfl rfl
    | succ k => exact g2 k s s' (by simpa using hs) (by simpa using hs')
  | some n :: g, A, B, hl, h => by
    obtain ⟨g1, g2⟩ := regroupR_rel (g := g) (A := A.drop n) (B := B.drop n) (by simp [hl]) fun k s s' hs hs' => h (n + k) s s' (by simpa using hs) (by simpa using hs')
    obtain ⟨f1, f2⟩ := flat_move (A := A.take n) (B := B.take n) (by simp [hl]) fun k s s' hs hs' => by
      rw [List.getElem?_take] at hs hs'
      split at hs
      · rename_i hk; rw [if_pos hk] at hs'; exact h k s s' hs hs'
      · cases hs
    refine ⟨by simp [regroupR, g1], fun k s s' hs hs' => ?_⟩
    simp only [regroupR] at hs hs'
    cases k with
    | zero => simp at hs hs'; subst hs; subst hs'; exact ⟨rfl, f1, f2⟩
    | succ k => exact g2 k s s' (by simpa using hs) (by simpa using hs')

theorem asOne_move {cx1 cx2 : Cx} {A B : List (Bool × List LV)} (i2 : A.length = B.length) (i3 : LikeR cx1 cx2 w A B) {v : Value} (hv : VR cx1 w (asOne A) v) : VR cx2 w (asOne B) v := by
  have vp : ∀ {t t' : Bool × List LV} {u : Value}, t.1 = t'.1 → t.2.length = t'.2.length → (∀ us, All2 (VL cx1 w) t.2 us → All2 (VL cx2 w) t'.2 us) → VP cx1 w t.1 t.2 u → VP cx2 w t'.1 t'.2 u := fun {t t' u} ha hl hc hv => by
    unfold VP at *
    rw [← ha]
    split
    · rename_i h1; simp only [h1, if_true] at hv; obtain ⟨vs, e, hv⟩ := hv; exact ⟨vs, e, hc vs hv⟩
    · rename_i h1; simp only [h1] at hv
      obtain ⟨c, hcc, hv⟩ := hv
      rw [hcc] at hl hc
      obtain ⟨c', hc'⟩ := List.length_eq_one_iff.1 hl.symm
      rw [hc'] at hc
      exact ⟨c', hc', (hc [u] ⟨hv, trivial⟩).1⟩
  have all : ∀ {A B : List (Bool × List LV)} {vs : List Value}, A.length = B.length → (∀ (k : Nat) (t t' : Bool × List LV), A[k]? = some t → B[k]? = some t' → t.1 = t'.1 ∧ t.2.length = t'.2.length ∧ ∀ us, All2 (VL cx1 w) t.2 us → All2 (VL cx2 w) t'.2 us) →
      All2 (fun (t : Bool × List LV) u => VP cx1 w t.1 t.2 u) A vs → All2 (fun (t : Bool × List LV) u => VP cx2 w t.1 t.2 u) B vs := by
    intro A
    induction A with
    | nil => intro B vs hl _ hv; cases B with
      | nil => cases vs with
        | nil => trivial
        | cons _ _ => exact hv.elim
      | cons _ _ => simp at hl
    | cons t A ih => intro B vs hl hc hv; cases B with
      | nil => simp at hl
      | cons t' B => cases vs with
        | nil => exact hv.elim
        | cons v vs =>
          obtain ⟨h1, h2, h3⟩ := hc 0 t t' rfl rfl
          exact ⟨vp h1 h2 h3 hv.1, ih (by simpa using hl) (fun k s s' hs hs' => hc (k + 1) s s' (by simpa using hs) (by simpa using hs')) hv.2⟩
  cases A with
  | nil => cases B with
    | nil =>
      obtain ⟨vs, e, h0⟩ := hv
      exact ⟨vs, e, all (A := []) (B := []) rfl (fun k t t' h => by simp at h) h0⟩
    | cons _ _ => simp at i2
  | cons t A => cases B with
    | nil => simp at i2
    | cons t' B =>
      obtain ⟨h1, h2, h3⟩ := i3 0 t t' rfl rfl
      cases A with
      | nil => cases B with
        | nil =>
          show VR cx2 w (pack t'.1 t'.2) v
          have hv : VR cx1 w (pack t.1 t.2) v := hv
          rw [← h1]
          cases ht : t.1 with
          | true => rw [ht] at hv; obtain ⟨vs, e, hv⟩ := hv; exact ⟨vs, e, h3 vs hv⟩
          | false =>
            rw [ht] at hv
            cases hc : t.2 with
            | nil => rw [hc] at h2; have : t'.2 = [] := List.eq_nil_of_length_eq_zero h2.symm; rw [this]; trivial
            | cons c cs => cases cs with
              | nil =>
                rw [hc] at h2 hv h3
                obtain ⟨c', hc'⟩ := List.length_eq_one_iff.1 h2.symm
                rw [hc'] at h3 ⊢
                exact (h3 [v] ⟨hv, trivial⟩).1
              | cons c2 cs =>
                rw [hc] at h2
                cases ht' : t'.2 with
                | nil => rw [ht'] at h2; simp at h2
                | cons d ds => cases ds with
                  | nil => rw [ht'] at h2; simp at h2
                  | cons d2 ds => trivial
        | cons _ _ => simp at i2
      | cons t2 A => cases B with
        | nil => simp at i2
        | cons t2' B =>
          obtain ⟨vs, e, h0⟩ := hv
          exact ⟨vs, e, all i2 (fun k t t' h h' => i3 k t t' h h') h0⟩

theorem results_move [Laid] {cx1 cx2 : Cx} : ∀ {rs : List RTy} {l : List Type} {o : Tup (rs.map RTy.den ++ l)} {p q : Nat}, (∀ r ∈ rs, r.apart = true ∨ ∀ b, cx1.S b → cx2.S b) → (∀ j, j < (resOf p rs o).2.length → cx2.μ (q + j) = cx1.μ (p + j)) →
    (resOf q rs o).2 = (resOf p rs o).2 ∧ (∀ vs, All2 (fun (t : Bool × List LV) u => VP cx1 w t.1 t.2 u) (resOf p rs o).1 vs → All2 (fun (t : Bool × List LV) u => VP cx2 w t.1 t.2 u) (resOf q rs o).1 vs) ∧
      (∀ v g, VR cx1 w (asOneP g (resOf p rs o).1) v → VR cx2 w (asOneP g (resOf q rs o).1) v) ∧
      (∀ (j : Nat) (b : Ob) (r : RO), (resOf p rs o).2[j]? = some b → ObR cx1 w r b → ObR cx2 w r b) := by
  intro rs l o p q hap hμ
  have one : ∀ {rs : List RTy} {l : List Type} {o : Tup (rs.map RTy.den ++ l)} {p q : Nat}, (∀ r ∈ rs, r.apart = true ∨ ∀ b, cx1.S b → cx2.S b) → (∀ j, j < (resOf p rs o).2.length → cx2.μ (q + j) = cx1.μ (p + j)) →
      (resOf q rs o).2 = (resOf p rs o).2 ∧ (resOf q rs o).1.length = (resOf p rs o).1.length ∧ (∀ (k : Nat) (t t' : Bool × List LV), (resOf p rs o).1[k]? = some t → (resOf q rs o).1[k]? = some t' → t.1 = t'.1 ∧ t.2.length = t'.2.length ∧ ∀ us, All2 (VL cx1 w) t.2 us → All2 (VL cx2 w) t'.2 us) ∧
      (∀ (j : Nat) (b : Ob) (r : RO), (resOf p rs o).2[j]? = some b → ObR cx1 w r b → ObR cx2 w r b) := by
    intro rs
    induction rs with
    | nil => intro l o p q _ _; exact ⟨rfl, rfl, fun k t t' h => by simp [resOf] at h, fun j b r h => by simp [resOf] at h⟩
    | cons r rs ih =>
      intro l o p q hap hμ
      cases r with
      | val agg t =>
        obtain ⟨i1, i2, i3, i4⟩ := ih (o := Tup.tl o) (p := p) (q := q) (fun r hr => hap r (List.mem_cons_of_mem _ hr)) (fun j hj => hμ j (by simpa [resOf] using hj))
        refine ⟨by simpa [resOf] using i1, by simp [resOf, i2], fun k s s' hs hs' => ?_, fun j b r hb ho => i4 j b r (by simpa [resOf] using hb) ho⟩
        cases k with
        | zero =>
          simp [resOf] at hs hs'; subst hs; subst hs'
          exact ⟨rfl, rfl, fun us hus => sv_move rfl rfl (hap (.val agg t) (by simp)) hus⟩
        | succ k => exact i3 k s s' (by simpa [resOf] using hs) (by simpa [resOf] using hs')
      | row Et e d =>
        obtain ⟨i1, i2, i3, i4⟩ := ih (o := Tup.tl o) (p := p + 1) (q := q + 1) (fun r hr => hap r (List.mem_cons_of_mem _ hr)) (fun j hj => by
          have := hμ (j + 1) (by simp [resOf]; exact hj)
          rw [show q + 1 + j = q + (j + 1) by omega, this]; congr 1; omega)
        have h0 := hμ 0 (by simp [resOf])
        simp only [Nat.add_zero] at h0
        refine ⟨by simpa [resOf] using i1, by simp [resOf, i2], fun k s s' hs hs' => ?_, fun j b r hb ho => ?_⟩
        · cases k with
          | zero =>
            simp [resOf] at hs hs'; subst hs; subst hs'
            refine ⟨rfl, rfl, fun us hus => ?_⟩
            cases us with
            | nil => exact hus.elim
            | cons u us => cases us with
              | nil => exact ⟨⟨by rw [h0]; exact hus.1.1, hus.1.2⟩, trivial⟩
              | cons _ _ => exact hus.2.elim
          | succ k => exact i3 k s s' (by simpa [resOf] using hs) (by simpa [resOf] using hs')
        · cases j with
          | zero =>
            simp [resOf] at hb; subst hb
            obtain ⟨e1, e2, e3, hrow⟩ := ho
            exact ⟨e1, e2, e3, hrow.mono (fun _ _ => rfl) fun c x bs _ hE => hE.move (hap (.row Et e d) (by simp))⟩
          | succ j => exact i4 j b r (by simpa [resOf] using hb) ho
      | ptr t =>
        obtain ⟨i1, i2, i3, i4⟩ := ih (o := Tup.tl o) (p := p + 1) (q := q + 1) (fun r hr => hap r (List.mem_cons_of_mem _ hr)) (fun j hj => by
          have := hμ (j + 1) (by simp [resOf]; exact hj)
          rw [show q + 1 + j = q + (j + 1) by omega, this]; congr 1; omega)
        have h0 := hμ 0 (by simp [resOf])
        simp only [Nat.add_zero] at h0
        refine ⟨by simpa [resOf] using i1, by simp [resOf, i2], fun k s s' hs hs' => ?_, fun j b r hb ho => ?_⟩
        · cases k with
          | zero =>
            simp [resOf] at hs hs'; subst hs; subst hs'
            refine ⟨rfl, rfl, fun us hus => ?_⟩
            cases us with
            | nil => exact hus.elim
            | cons u us => cases us with
              | nil =>
                obtain ⟨g, e1, e2⟩ := hus.1
                exact ⟨⟨g, by rw [h0]; exact e1, e2⟩, trivial⟩
              | cons _ _ => exact hus.2.elim
          | succ k => exact i3 k s s' (by simpa [resOf] using hs) (by simpa [resOf] using hs')
        · cases j with
          | zero =>
            simp [resOf] at hb; subst hb
            obtain ⟨g, cur, T, e1, e2, e3, e4⟩ := ho
            exact ⟨g, cur, T, e1, e2, e3, sv_move rfl rfl (hap (.ptr t) (by simp)) e4⟩
          | succ j => exact i4 j b r (by simpa [resOf] using hb) ho
  obtain ⟨i1, i2, i3, i4⟩ := one (o := o) hap hμ
  have vp : ∀ {t t' : Bool × List LV} {u : Value}, t.1 = t'.1 → t.2.length = t'.2.length → (∀ us, All2 (VL cx1 w) t.2 us → All2 (VL cx2 w) t'.2 us) → VP cx1 w t.1 t.2 u → VP cx2 w t'.1 t'.2 u := fun {t t' u} ha hl hc hv => by
    unfold VP at *
    rw [← ha]
    split
    · rename_i h1; simp only [h1, if_true] at hv; obtain ⟨vs, e, hv⟩ := hv; exact ⟨vs, e, hc vs hv⟩
    · rename_i h1; simp only [h1] at hv
      obtain ⟨c, hcc, hv⟩ := hv
      rw [hcc] at hl hc
      obtain ⟨c', hc'⟩ := List.length_eq_one_iff.1 hl.symm
      rw [hc'] at hc
      exact ⟨c', hc', (hc [u] ⟨hv, trivial⟩).1⟩
  have all : ∀ {A B : List (Bool × List LV)} {vs : List Value}, A.length = B.length → (∀ (k : Nat) (t t' : Bool × List LV), A[k]? = some t → B[k]? = some t' → t.1 = t'.1 ∧ t.2.length = t'.2.length ∧ ∀ us, All2 (VL cx1 w) t.2 us → All2 (VL cx2 w) t'.2 us) →
      All2 (fun (t : Bool × List LV) u => VP cx1 w t.1 t.2 u) A vs → All2 (fun (t : Bool × List LV) u => VP cx2 w t.1 t.2 u) B vs := by
    intro A
    induction A with
    | nil => intro B vs hl _ hv; cases B with
      | nil => cases vs with
        | nil => trivial
        | cons _ _ => exact hv.elim
      | cons _ _ => simp at hl
    | cons t A ih => intro B vs hl hc hv; cases B with
      | nil => simp at hl
      | cons t' B => cases vs with
        | nil => exact hv.elim
        | cons v vs =>
          obtain ⟨h1, h2, h3⟩ := hc 0 t t' rfl rfl
          exact ⟨vp h1 h2 h3 hv.1, ih (by simpa using hl) (fun k s s' hs hs' => hc (k + 1) s s' (by simpa using hs) (by simpa using hs')) hv.2⟩
  refine ⟨i1, fun vs hv => all i2.symm (fun k t t' h h' => i3 k t t' h h') hv, fun v g hv => ?_, i4⟩
  exact asOne_move (regroupR_rel i2.symm i3).1 (regroupR_rel i2.symm i3).2 hv
end
end Go.Sh

namespace Go.Sh
open Go Go.RowKit

section
variable {cx cx' : Cx} {w w' : World} {G : Base} {M M' nx n' : Nat} {H H' Hm : Heap} {P : Program} {E : Env}

def noRO : RO := ⟨.bool false, 0, 0, 0, []⟩

/-- the rows and boxes that a call gets -/
theorem lend_rh [Laid] (h : RH G M H cx w) {ns rs : List Nat} (hnd : ns.Nodup) (hrs : ∀ n ∈ ns, n ∉ rs) (hns : ∀ n ∈ ns, ∃ o, H n = some o) {S : Nat → Prop} (hS : ∀ b, S b ↔ Feet cx rs b) {os : List Ob} (hos : os.length = ns.length) {cx0 : Cx} (h0 : cx0.S = S)
    (hμ : ∀ (k n : Nat), ns[k]? = some n → cx0.μ k = { cx.μ n with ver := 0 }) (hμ0 : ∀ k, ns[k]? = none → cx0.μ k = noRO) (hob : ∀ (k n : Nat) (o : Ob), ns[k]? = some n → os[k]? = some o → ObR cx0 w { cx.μ n with ver := 0 } o) :
    RH ⟨w, S, fun b => ∃ n ∈ ns, b ∈ (cx.μ n).foot, os.length⟩ os.length (heapOf os) cx0 w := by
  have idx : ∀ {k o}, heapOf os k = some o → ∃ n, ns[k]? = some n ∧ n ∈ ns := fun {k o} hk => by
    have hlt : k < os.length := (List.getElem?_eq_some_iff.1 hk).1
    exact ⟨ns[k], List.getElem?_eq_getElem (by omega), List.getElem_mem _⟩
  have hSl : ∀ b, S b → b < w.heap.size := fun b hb => by
    rcases (hS b).1 hb with hb | ⟨n, _, hb⟩
    · exact h.ss b hb
    · cases hn : H n with
      | none => rw [h.dead n hn] at hb; cases hb
      | some o => exact (h.mine n o b hn hb).2.1
  refine ⟨fun k o hk => ?_, fun k o hk => (List.getElem?_eq_some_iff.1 hk).1, fun k hk => ?_, fun k m o o' hk hm hne b hb => ?_, fun k o hk => ?_, fun k o b hk hb => ?_, fun b hb => ?_, fun b hb => ?_, rfl, rfl, rfl, Nat.le_refl _, fun _ _ _ => rfl, h.now, fun b hb ⟨n, hn, hbf⟩ => by
    obtain ⟨o, ho⟩ := hns n hn
    rcases (h.mine n o b ho hbf).1 with h1 | ⟨_, h1⟩
    · have := Laid.lt _ _ h.laid.1 hb
      omega
    · exact h.laid.2 b hb h1⟩
  · obtain ⟨n, hn, _⟩ := idx hk
    rw [hμ k n hn]; exact hob k n o hn hk
  · have : ns[k]? = none := List.getElem?_eq_none (by have := List.getElem?_eq_none_iff.1 hk; omega)
    rw [hμ0 k this]; rfl
  · obtain ⟨n1, hn1, hm1⟩ := idx hk
    obtain ⟨n2, hn2, hm2⟩ := idx hm
    rw [hμ k n1 hn1] at hb
    rw [hμ m n2 hn2]
    obtain ⟨o1, ho1⟩ := hns n1 hm1
    obtain ⟨o2, ho2⟩ := hns n2 hm2
    exact h.dj n1 n2 o1 o2 ho1 ho2 (fun e => hne (nodup_idx hnd (e ▸ hn1) hn2)) b hb
  · obtain ⟨n1, hn1, hm1⟩ := idx hk
    obtain ⟨o1, ho1⟩ := hns n1 hm1
    rw [hμ k n1 hn1]; exact h.nd n1 o1 ho1
  · obtain ⟨n1, hn1, hm1⟩ := idx hk
    obtain ⟨o1, ho1⟩ := hns n1 hm1
    rw [hμ k n1 hn1] at hb
    obtain ⟨g1, g2, g3⟩ := h.mine n1 o1 b ho1 hb
    refine ⟨.inr ⟨(List.getElem?_eq_some_iff.1 hk).1, n1, hm1, hb⟩, g2, fun hSb => ?_⟩
    rw [h0] at hSb
    rcases (hS b).1 hSb with hSb | ⟨m, hm, hb'⟩
    · exact g3 hSb
    · cases hmm : H m with
      | none => rw [h.dead m hmm] at hb'; cases hb'
      | some o2 => exact h.dj n1 m o1 o2 ho1 hmm (fun e => hrs n1 hm1 (e ▸ hm)) b hb hb'
  · rw [h0] at hb; exact hSl b hb
  · rw [h0] at hb; exact .inl hb

theorem shares_spec {rs : List RTy} {ps : List PTy} (h : shares rs ps = false) : (∀ r ∈ rs, r.apart = true) ∧ ∀ t, PTy.ioptr t ∈ ps → t.flat = true := by
  simp only [shares, Bool.or_eq_false_iff, List.any_eq_false] at h
  refine ⟨fun r hr => ?_, fun t ht => ?_⟩
  · have := h.1 r hr
    cases r with
    | val a t => simpa [RTy.apart] using this
    | row Et e d => cases d <;> simp_all [RTy.apart]
    | ptr t => simpa [RTy.apart] using this
  · simpa using h.2 _ ht

/-- what the caller has when a call has returned -/
theorem call_back [Laid] (h : RH G M H cx w) (hm : ∀ n o, Hm n = some o → H n = some o) {ns rs : List Nat} (hnd : ns.Nodup) (hns : ∀ n ∈ ns, ∃ o, Hm n = some o) {S : Nat → Prop} (hS : ∀ b, S b ↔ Feet cx rs b) {nio : Nat} (hnio : nio = ns.length) {cx0 : Cx} (hμ : ∀ (k n : Nat), ns[k]? = some n → cx0.μ k = { cx.μ n with ver := 0 })
    {sig : Sig} {out : sig.outs} (hlen : (endOf sig.params (ioOf sig.res out)).length = ns.length) (hlent : ∀ (k n : Nat) (e : Ob), ns[k]? = some n → (endOf sig.params (ioOf sig.res out))[k]? = some e → ∃ o, Hm n = some o ∧ LentOb sig.params o e)
    (hsh : shares sig.res sig.params = false ∨ ∀ b, Feet cx rs b → cx.S b) (hmix : (∀ n ∈ ns, G.nio ≤ n) ∨ ∀ n ∈ ns, n < G.nio) {v : Value} (hf : Final ⟨w, S, fun b => ∃ n ∈ ns, b ∈ (cx.μ n).foot, nio⟩ sig cx0 nio out v w')
    (hM : M ≤ M') (hn' : nx + (resOf nx sig.res out).2.length ≤ M') (hfresh : ∀ m o, nx ≤ m → m < nx + (resOf nx sig.res out).2.length → H m ≠ some o) (hold : ∀ m o, H m = some o → o.old nx (nx + (resOf nx sig.res out).2.length)) :
    After G M' (H.upd (lendBack Hm ns (endOf sig.params (ioOf sig.res out)) ++ numbered nx (resOf nx sig.res out).2)) nx (nx + (resOf nx sig.res out).2.length) cx w (asOneP sig.rgroups (resOf nx sig.res out).1) v w' := by
  classical
  obtain ⟨cx1, hv, h1, hsame⟩ := hf
  generalize hends : endOf sig.params (ioOf sig.res out) = ends at *
  subst hnio
  -- the new names' number
  have hlen2 : (resOf nx sig.res out).2.length = (resOf ns.length sig.res out).2.length := by
    have : ∀ {rs : List RTy} {l : List Type} {o : Tup (rs.map RTy.den ++ l)} {p q : Nat}, (resOf p rs o).2.length = (resOf q rs o).2.length := by
      intro rs
      induction rs with
      | nil => intros; rfl
      | cons r rs ih => intro l o p q; cases r <;> simp [resOf] <;> exact ih
    exact this
  generalize hk0 : (resOf nx sig.res out).2.length = k0 at *
  let cx' : Cx := { S := fun b => cx.S b ∨ (cx1.S b ∧ w.heap.size ≤ b), μ := fun m =>
    if hx : ∃ k, ns[k]? = some m then { cx.μ m with ver := (cx.μ m).ver + 1, foot := (cx1.μ (Classical.choose hx)).foot }
    else if nx ≤ m ∧ m < nx + k0 then cx1.μ (ns.length + (m - nx)) else cx.μ m }
  have μ1 : ∀ (k n : Nat), ns[k]? = some n → cx'.μ n = { cx.μ n with ver := (cx.μ n).ver + 1, foot := (cx1.μ k).foot } := fun k n hk => by
    have hx : ∃ k, ns[k]? = some n := ⟨k, hk⟩
    show (if hx : ∃ k, ns[k]? = some n then _ else _) = _
    rw [dif_pos hx, nodup_idx hnd (Classical.choose_spec hx) hk]
  have notin : ∀ m, m ∉ ns → ¬ ∃ k, ns[k]? = some m := fun m hmn ⟨k, hk⟩ => hmn (List.mem_of_getElem? hk)
  have nsNew : ∀ m, nx ≤ m → m < nx + k0 → m ∉ ns := fun m h1 h2 hmem => by
    obtain ⟨o, ho⟩ := hns m hmem
    exact hfresh m o h1 h2 (hm _ _ ho)
  have μ2 : ∀ j, j < k0 → cx'.μ (nx + j) = cx1.μ (ns.length + j) := fun j hj => by
    show (if hx : ∃ k, ns[k]? = some (nx + j) then _ else _) = _
    rw [dif_neg (notin _ (nsNew _ (by omega) (by omega))), if_pos (by omega)]; congr 1; omega
  have μ3 : ∀ m, m ∉ ns → ¬ (nx ≤ m ∧ m < nx + k0) → cx'.μ m = cx.μ m := fun m hmn hnot => by
    show (if hx : ∃ k, ns[k]? = some m then _ else _) = _
    rw [dif_neg (notin m hmn), if_neg hnot]
  -- the new heap
  have H1 : ∀ (k n : Nat) (e : Ob), ns[k]? = some n → ends[k]? = some e → H.upd (lendBack Hm ns ends ++ numbered nx (resOf nx sig.res out).2) n = some (backOb (Hm n) e) := fun k n e hk he => by
    rw [Heap.upd_append, upd_numbered, if_neg (by rw [hk0]; exact fun hh => nsNew n hh.1 hh.2 (List.mem_of_getElem? hk))]
    exact upd_lendBack Hm H ns ends hnd hlen k n e hk he
  have H2 : ∀ j, j < k0 → H.upd (lendBack Hm ns ends ++ numbered nx (resOf nx sig.res out).2) (nx + j) = (resOf nx sig.res out).2[j]? := fun j hj => by
    rw [Heap.upd_append, upd_numbered, if_pos (by rw [hk0]; omega)]; congr 1; omega
  have H3 : ∀ m, m ∉ ns → ¬ (nx ≤ m ∧ m < nx + k0) → H.upd (lendBack Hm ns ends ++ numbered nx (resOf nx sig.res out).2) m = H m := fun m hmn hnot => by
    rw [Heap.upd_append, upd_numbered, if_neg (by rw [hk0]; exact hnot), Heap.upd_other _ _ fun hh => hmn (lendBack_names Hm ns ends m hh)]
  -- shared memory
  have hmono : (∀ b, Feet cx rs b → cx.S b) → ∀ b, cx1.S b → cx'.S b := fun hrs b hb => by
    rcases h1.sg b hb with hb' | hb'
    · exact .inl (hrs b ((hS b).1 hb'))
    · exact .inr ⟨hb, hb'⟩
  obtain ⟨r1, r2, r3, r4⟩ := results_move (w := w') (cx1 := cx1) (cx2 := cx') (o := out) (p := ns.length) (q := nx) (rs := sig.res) (fun r hr => by
    rcases hsh with hsh | hsh
    · exact .inl ((shares_spec hsh).1 r hr)
    · exact .inr (hmono hsh)) (fun j hj => μ2 j (by rw [hlen2]; exact hj))
  have hlentblk : ∀ n ∈ ns, ∀ b ∈ (cx.μ n).foot, (G.w0.heap.size ≤ b ∨ n < G.nio ∧ G.lent b) ∧ b < w.heap.size ∧ ¬ cx.S b := fun n hn b hb => by
    obtain ⟨o, ho⟩ := hns n hn
    exact h.mine n o b (hm _ _ ho) hb
  have blk : ∀ b, b < w.heap.size → (¬ ∃ n ∈ ns, b ∈ (cx.μ n).foot) → Same w w' b := fun b hb hl => h1.block b hb hl
  have ob1 : ∀ (k n : Nat) (e : Ob), ns[k]? = some n → ends[k]? = some e → heapOf (ends ++ (resOf ns.length sig.res out).2) k = some e := fun k n e hk he => by
    have := (List.getElem?_eq_some_iff.1 he).1
    simp only [heapOf]; rw [List.getElem?_append_left this]; exact he
  have ob2 : ∀ j, heapOf (ends ++ (resOf ns.length sig.res out).2) (ns.length + j) = (resOf nx sig.res out).2[j]? := fun j => by
    simp only [heapOf]; rw [List.getElem?_append_right (by omega), r1, hlen]; congr 1; omega
  have kn : ∀ n ∈ ns, ∃ k e, ns[k]? = some n ∧ ends[k]? = some e := fun n hn => by
    obtain ⟨k, hk⟩ := List.getElem?_of_mem hn
    have := (List.getElem?_eq_some_iff.1 hk).1
    exact ⟨k, _, hk, List.getElem?_eq_getElem (by omega)⟩
  have foot1 : ∀ (k n : Nat) (e : Ob), ns[k]? = some n → ends[k]? = some e → ∀ b ∈ (cx1.μ k).foot, (w.heap.size ≤ b ∨ ∃ n2 ∈ ns, b ∈ (cx.μ n2).foot) ∧ b < w'.heap.size ∧ ¬ cx1.S b := fun k n e hk he b hb => by
    obtain ⟨g1, g2, g3⟩ := h1.mine k e b (ob1 k n e hk he) hb
    exact ⟨g1.imp id fun x => x.2, g2, g3⟩
  have foot2 : ∀ j o, j < k0 → (resOf nx sig.res out).2[j]? = some o → ∀ b ∈ (cx1.μ (ns.length + j)).foot, w.heap.size ≤ b ∧ b < w'.heap.size ∧ ¬ cx1.S b := fun j o hj ho b hb => by
    obtain ⟨g1, g2, g3⟩ := h1.mine (ns.length + j) o b ((ob2 j).trans ho) hb
    refine ⟨?_, g2, g3⟩
    rcases g1 with g1 | ⟨g1, _⟩
    · exact g1
    · simp only at g1; omega
  -- any new row's blocks
  have footD : ∀ (n : Nat) (o : Ob), (n ∈ ns ∨ (nx ≤ n ∧ n < nx + k0)) → H.upd (lendBack Hm ns ends ++ numbered nx (resOf nx sig.res out).2) n = some o →
      ∃ (k : Nat) (e : Ob), heapOf (ends ++ (resOf ns.length sig.res out).2) k = some e ∧ (cx'.μ n).foot = (cx1.μ k).foot ∧ (n ∈ ns → ns[k]? = some n) ∧ (n ∉ ns → k = ns.length + (n - nx)) ∧
      ∀ b ∈ (cx'.μ n).foot, (w.heap.size ≤ b ∨ n ∈ ns ∧ ∃ n2 ∈ ns, b ∈ (cx.μ n2).foot) ∧ b < w'.heap.size ∧ ¬ cx1.S b := fun n o hD ho => by
    by_cases hn : n ∈ ns
    · obtain ⟨k, e, hk, he⟩ := kn n hn
      refine ⟨k, e, ob1 k n e hk he, by rw [μ1 k n hk], fun _ => hk, fun hh => absurd hn hh, fun b hb => ?_⟩
      rw [μ1 k n hk] at hb
      obtain ⟨g1, g2, g3⟩ := foot1 k n e hk he b hb
      exact ⟨g1.imp id fun x => ⟨hn, x⟩, g2, g3⟩
    · have hr := hD.resolve_left hn
      obtain ⟨j, rfl⟩ : ∃ j, n = nx + j := ⟨n - nx, by omega⟩
      have hj : j < k0 := by omega
      rw [H2 j hj] at ho
      refine ⟨ns.length + j, o, (ob2 j).trans ho, by rw [μ2 j hj], fun hh => absurd hh hn, fun _ => by omega, fun b hb => ?_⟩
      rw [μ2 j hj] at hb
      obtain ⟨g1, g2, g3⟩ := foot2 j o hj ho b hb
      exact ⟨.inl g1, g2, g3⟩
  have hSame : ∀ b, b < w.heap.size → (∀ n ∈ ns, b ∉ (cx.μ n).foot) → Same w w' b := fun b hb hl => blk b hb fun ⟨n, hn, hb'⟩ => hl n hn hb'
  have htr : Tr nx (nx + k0) cx w cx' w' := ⟨fun b hb => .inl hb, fun b hb => hSame b (h.ss b hb) fun n hn hb' => (hlentblk n hn b hb').2.2 hb, fun m hmr => by
    by_cases hmn : m ∈ ns
    · obtain ⟨k, e, hk, he⟩ := kn m hmn
      rw [μ1 k m hk]
      exact ⟨rfl, rfl, rfl, Nat.le_succ _, fun hver => absurd hver (by simp)⟩
    · rw [μ3 m hmn hmr]
      refine ⟨rfl, rfl, rfl, Nat.le_refl _, fun _ => ⟨rfl, fun b hb => ?_⟩⟩
      cases hmm : H m with
      | none => rw [h.dead m hmm] at hb; cases hb
      | some o =>
        refine hSame b (h.mine m o b hmm hb).2.1 fun n hn hb' => ?_
        obtain ⟨o2, ho2⟩ := hns n hn
        exact h.dj m n o o2 hmm (hm _ _ ho2) (fun e => hmn (e ▸ hn)) b hb hb'⟩
  refine ⟨cx', r3 v _ hv, ?_, htr⟩
  refine h.step (fun m => m ∈ ns ∨ (nx ≤ m ∧ m < nx + k0)) hM (fun m hD => ?_) (fun m o hD ho b hb => ?_) (fun m o hD ho => ?_) (fun m hD ho => ?_) (fun m k o o' hD ho hDk hk b hb => ?_) (fun m k o o' hD hDk ho hk hne b hb => ?_) (fun m o b hD ho hb hS' => ?_) (fun b hb => ?_) h1.os h1.tape h1.output h1.size (fun b hb hl => ?_) htr fun m o _ hmo => hold m o hmo
  · rw [not_or] at hD; exact ⟨H3 m hD.1 hD.2, μ3 m hD.1 hD.2⟩
  · rw [not_or] at hD
    refine hSame b (h.mine m o b ho hb).2.1 fun n hn hb' => ?_
    obtain ⟨o2, ho2⟩ := hns n hn
    exact h.dj m n o o2 ho (hm _ _ ho2) (fun e => hD.1 (e ▸ hn)) b hb hb'
  · obtain ⟨k, e, hk, hfoot, hkn, hkm, hb⟩ := footD m o hD ho
    refine ⟨?_, ?_, ?_, fun b hbb => ?_⟩
    · by_cases hmn : m ∈ ns
      · have hk' := hkn hmn
        have hke : ends[k]? = some e := by
          have hlt := (List.getElem?_eq_some_iff.1 hk').1
          simp only [heapOf] at hk
          rw [List.getElem?_append_left (by omega)] at hk; exact hk
        rw [H1 k m e hk' hke] at ho
        simp at ho; subst ho
        obtain ⟨o2, ho2, hl⟩ := hlent k m e hk' hke
        have hob := h1.ob k e hk
        have hvsame : (cx1.μ k).v = (cx.μ m).v := by rw [hsame k (by have := (List.getElem?_eq_some_iff.1 hk').1; omega), hμ k m hk']
        have hold2 := h.ob m o2 (hm _ _ ho2)
        rw [μ1 k m hk', ho2]
        rcases hl with ⟨E', e', d, ver, xs, xs', rfl, hd, rfl⟩ | ⟨cs, t, x', rfl, rfl, hpt⟩
        · obtain ⟨g1, g2, g3, g4⟩ := hob
          obtain ⟨q1, q2, q3, q4⟩ := hold2
          obtain ⟨A1, c1, ee1, _⟩ := g4.slice
          obtain ⟨A2, c2, ee2, _⟩ := q4.slice
          have hll : xs'.length = xs.length := by
            rw [hvsame, ee2] at ee1
            simp at ee1; exact ee1.2.1.symm
          simp only [backOb]
          refine ⟨by rw [q1], by rw [hll]; exact q2, q3, ?_⟩
          show Row1 w' E' e'.size (El w' cx'.S d e') (cx.μ m).v xs' (cx1.μ k).foot
          rw [← hvsame]
          refine g4.mono (fun _ _ => rfl) fun c x bs _ hE => ?_
          unfold El at hE
          simp only [if_true] at hE
          unfold El
          rcases hd with rfl | hf
          · simpa using hE
          · cases d with
            | true => simpa using hE
            | false =>
              simp only [Bool.false_eq_true, if_false]
              exact ⟨hE.rd (fun b hb => by rw [hE.flat hf] at hb; cases hb), hE.flat hf⟩
        · obtain ⟨g, cur, T, g1, g2, g3, g4⟩ := hob
          refine ⟨g, cur, T, by rw [← g1, hvsame], g2, g3, ?_⟩
          exact sv_move rfl rfl (by
            rcases hsh with hsh | hsh
            · exact .inl ((shares_spec hsh).2 t hpt)
            · exact .inr (hmono hsh)) g4
      · have hr := hD.resolve_left hmn
        obtain ⟨j, rfl⟩ : ∃ j, m = nx + j := ⟨m - nx, by omega⟩
        have hj : j < k0 := by omega
        rw [H2 j hj] at ho
        rw [μ2 j hj]
        refine r4 j o _ (by rw [← r1]; exact ho) (h1.ob _ o ((ob2 j).trans ho))
    · rcases hD with hD | hD
      · obtain ⟨o2, ho2⟩ := hns m hD
        exact Nat.lt_of_lt_of_le (h.lt m o2 (hm _ _ ho2)) hM
      · omega
    · rw [hfoot]; exact h1.nd k e hk
    · obtain ⟨g1, g2, g3⟩ := hb b hbb
      refine ⟨?_, g2, ?_⟩
      · rcases g1 with g1 | ⟨hmn, n2, hn2, hb2⟩
        · exact .inl (Nat.le_trans h.size g1)
        · rcases (hlentblk n2 hn2 b hb2).1 with g | ⟨g, g'⟩
          · exact .inl g
          · refine .inr ⟨?_, g'⟩
            rcases hmix with hmix | hmix
            · have := hmix n2 hn2; omega
            · exact hmix m hmn
      · rintro (hS1 | ⟨hS1, _⟩)
        · rcases g1 with g1 | ⟨_, n2, hn2, hb2⟩
          · have := h.ss b hS1; omega
          · exact (hlentblk n2 hn2 b hb2).2.2 hS1
        · exact g3 hS1
  · rcases hD with hD | hD
    · obtain ⟨k, e, hk, he⟩ := kn m hD
      rw [H1 k m e hk he] at ho; cases ho
    · obtain ⟨j, rfl⟩ : ∃ j, m = nx + j := ⟨m - nx, by omega⟩
      rw [H2 j (by omega), List.getElem?_eq_none_iff, hk0] at ho; omega
  · obtain ⟨k1, e, hk1, hfoot, hkn, hkm, hbb⟩ := footD m o hD ho
    rw [not_or] at hDk
    obtain ⟨g1, g2, g3⟩ := hbb b hb
    intro hb'
    rcases g1 with g1 | ⟨_, n2, hn2, hb2⟩
    · have := (h.mine k o' b hk hb').2.1; omega
    · obtain ⟨o2, ho2⟩ := hns n2 hn2
      exact h.dj n2 k o2 o' (hm _ _ ho2) hk (fun e => hDk.1 (e ▸ hn2)) b hb2 hb'
  · obtain ⟨k1, e1, hk1, hf1, ha1, hb1, hc1⟩ := footD m o hD ho
    obtain ⟨k2, e2, hk2, hf2, ha2, hb2, hc2⟩ := footD k o' hDk hk
    rw [hf1] at hb
    rw [hf2]
    refine h1.dj k1 k2 e1 e2 hk1 hk2 (fun heq => hne ?_) b hb
    subst heq
    by_cases hm1 : m ∈ ns <;> by_cases hm2 : k ∈ ns
    · have := ha1 hm1; rw [ha2 hm2] at this; simpa using this.symm
    · have h3 := ha1 hm1; have h4 := hb2 hm2
      have := (List.getElem?_eq_some_iff.1 h3).1; omega
    · have h3 := ha2 hm2; have h4 := hb1 hm1
      have := (List.getElem?_eq_some_iff.1 h3).1; omega
    · have h3 := hb1 hm1; have h4 := hb2 hm2
      have := hD.resolve_left hm1; have := hDk.resolve_left hm2; omega
  · rw [not_or] at hD
    rcases hS' with hS' | ⟨hS1, hS2⟩
    · exact (h.mine m o b ho hb).2.2 hS'
    · have := (h.mine m o b ho hb).2.1; omega
  · rcases hb with hb | ⟨hb, hb'⟩
    · exact ⟨Nat.lt_of_lt_of_le (h.ss b hb) h1.size, h.sg b hb⟩
    · exact ⟨h1.ss b hb, .inr (Nat.le_trans h.size hb')⟩
  · refine hSame b (Nat.lt_of_lt_of_le hb h.size) fun n hn hb' => ?_
    rcases (hlentblk n hn b hb').1 with g | ⟨_, g⟩
    · omega
    · exact hl g

theorem All2.lf : ∀ {cs : List LV} {us : List Value}, All2 (VL cx w) cs us → All2 (VR cx w) (cs.map SV.lf) us
  | [], [], _ => trivial
  | [], _ :: _, h => h.elim
  | _ :: _, [], h => h.elim
  | c :: cs, u :: us, h => ⟨h.1, All2.lf h.2⟩
theorem All2.unlf : ∀ {ls : List SV} {us : List Value}, (∀ s ∈ ls, s.isLeaf = true) → All2 (VR cx w) ls us → All2 (VL cx w) (ls.map SV.leaf) us
  | [], [], _, _ => trivial
  | [], _ :: _, _, h => h.elim
  | _ :: _, [], _, h => h.elim
  | s :: ls, u :: us, hl, h => by
    refine ⟨?_, All2.unlf (fun x hx => hl x (by simp [hx])) h.2⟩
    have := hl s (by simp)
    cases s <;> simp [SV.isLeaf] at this
    exact h.1

/-- arguments as leaves, and back -/
theorem ungroup_is [Laid] {cx0 : Cx} : ∀ {g : List (Option Nat)} {svs fs : List SV} {vals : List Value}, ungroup g svs = some fs → All2 (VR cx w) svs vals →
    ∃ fvals, All2 (VR cx w) fs fvals ∧ ∀ ls : List SV, All2 (VR cx0 w) ls fvals → leavesOk g ls = true → All2 (VR cx0 w) (regroup g ls) vals
  | [], svs, fs, vals, h, hv => by simp only [ungroup, Option.some.injEq] at h; subst h; exact ⟨vals, hv, fun ls hl _ => hl⟩
  | none :: g, [], fs, vals, h, hv => by simp [ungroup] at h
  | none :: g, s :: svs, fs, [], h, hv => hv.elim
  | none :: g, s :: svs, fs, v :: vals, h, hv => by
    simp only [ungroup] at h
    split at h
    · rename_i r hr
      simp only [Option.some.injEq] at h; subst h
      obtain ⟨fv, h1, h2⟩ := ungroup_is (cx0 := cx0) hr hv.2
      refine ⟨v :: fv, ⟨hv.1, h1⟩, fun ls hl hk => ?_⟩
      cases ls with
      | nil => exact hl.elim
      | cons l ls => exact ⟨hl.1, h2 ls hl.2 (by simpa [leavesOk] using hk)⟩
    · cases h
  | some n :: g, [], fs, vals, h, hv => by simp [ungroup] at h
  | some n :: g, s :: svs, fs, [], h, hv => hv.elim
  | some n :: g, s :: svs, fs, v :: vals, h, hv => by
    cases s <;> simp only [ungroup] at h <;> try (cases h; done)
    rename_i cs
    split at h
    · rename_i hn
      split at h
      · rename_i r hr
        simp only [Option.some.injEq] at h; subst h
        obtain ⟨us, rfl, hus⟩ := hv.1
        obtain ⟨fv, h1, h2⟩ := ungroup_is (cx0 := cx0) hr hv.2
        refine ⟨us ++ fv, (All2.lf hus).append h1, fun ls hl hk => ?_⟩
        simp only [leavesOk, Bool.and_eq_true] at hk
        obtain ⟨⟨k1, k2⟩, k3⟩ := hk
        have hul : us.length = n := by rw [← hn, hus.len]
        have e1 : ls = ls.take n ++ ls.drop n := (List.take_append_drop n ls).symm
        rw [e1] at hl
        obtain ⟨v1, v2, e2, a1, a2⟩ := All2.split hl
        have hl1 := a1.len
        have hln : n ≤ ls.length := by simpa using k1
        rw [List.length_take, Nat.min_eq_left hln] at hl1
        obtain ⟨rfl, rfl⟩ := List.append_inj e2 (by omega)
        exact ⟨⟨us, rfl, All2.unlf (List.all_eq_true.1 k2) a1⟩, h2 _ a2 k3⟩
      · cases h
    · cases h

theorem callCore_is [Laid] (hio : E.nio = G.nio) (h : RH G M H cx w) (hm : ∀ n o, Hm n = some o → H n = some o) {wr : Nat → Bool} {f : FuncId} {en : Entry} (hcon : ∀ a, ContractAt P f en.sig en.F a) {fargs svs : List SV} (hfl : ungroup en.sig.groups svs = some fargs) {vals : List Value} (hv : All2 (VR cx w) svs vals) {R : Type} {r : R} {K : SV → Upd → Nat → Option R}
    (hh : callCore E Hm wr en fargs nx K = some r) :
    ∃ sv u n', (∀ {R : Type} (K : SV → Upd → Nat → Option R), callCore E Hm wr en fargs nx K = K sv u n') ∧ nx ≤ n' ∧ ∀ {M' : Nat}, M ≤ M' → n' ≤ M' → (∀ m o, nx ≤ m → m < n' → H m ≠ some o) → (∀ m o, H m = some o → o.old nx n') →
      Calls P f vals.toArray w fun e w' => match e with | .returned v => After G M' (H.upd u) nx n' cx w sv v w' | _ => False := by
  classical
  unfold callCore at hh
  · split at hh
    · cases hh
    · rename_i a ns rs hargs
      split at hh
      · rename_i hc
        cases hF : en.F a with
        | none => rw [hF] at hh; cases hh
        | some out =>
          refine ⟨asOneP en.sig.rgroups (resOf nx en.sig.res out).1, lendBack Hm ns (endOf en.sig.params (ioOf en.sig.res out)) ++ numbered nx (resOf nx en.sig.res out).2, nx + (resOf nx en.sig.res out).2.length, fun K => by simp only [callCore, hargs]; rw [if_pos hc, hF]; rfl, by omega, fun {M'} hM hn' hfresh hold => ?_⟩
          simp only [Bool.and_eq_true, Bool.or_eq_true, Bool.not_eq_true', List.all_eq_true, List.contains_eq_mem, decide_eq_true_eq, decide_eq_false_iff_not] at hc
          obtain ⟨⟨⟨⟨c0, c1⟩, c2⟩, c3⟩, c4⟩ := hc
          have hnd := distinct_spec c1
          have c3' : shares en.sig.res en.sig.params = false ∨ ∀ b, Feet cx rs b → cx.S b := c3.imp id fun hfz b hb => by
            rcases hb with hb | ⟨n, hn, hb⟩
            · exact hb
            · have := hfz n hn
              unfold isFro at this
              split at this
              · rename_i E' e' xs' hq
                obtain ⟨_, _, e3, _⟩ := h.ob n _ (hm _ _ hq)
                rw [e3] at hb; cases hb
              · cases this
          let cx0 : Cx := { S := Feet cx rs, μ := fun k => match ns[k]? with | some n => { cx.μ n with ver := 0 } | none => noRO }
          have hμ : ∀ (k n : Nat), ns[k]? = some n → cx0.μ k = { cx.μ n with ver := 0 } := fun k n hk => by simp only [cx0, hk]
          have hμ0 : ∀ k, ns[k]? = none → cx0.μ k = noRO := fun k hk => by simp only [cx0, hk]
          obtain ⟨fvals, hfv, hback⟩ := ungroup_is (cx0 := cx0) hfl hv
          obtain ⟨i1, i2, i3, i4, i5⟩ := args_sound h hm (cx0 := cx0) (nx := 0) hargs hfv (fun b hb => hb) (fun k n hk => by rw [Nat.zero_add]; exact hμ k n hk)
          have hns : ∀ n ∈ ns, ∃ o, Hm n = some o := fun n hn => by obtain ⟨o, ho, _⟩ := i4 n hn; exact ⟨o, ho⟩
          have hrh := lend_rh h hnd c2 (fun n hn => by obtain ⟨o, ho⟩ := hns n hn; exact ⟨o, hm _ _ ho⟩) (S := Feet cx rs) (fun _ => Iff.rfl) i2 rfl hμ hμ0 i3
          refine Calls.mono (hcon a out w (Feet cx rs) (fun b => ∃ n ∈ ns, b ∈ (cx.μ n).foot) cx0 vals hF rfl hrh (hback _ i1 c0)) fun e w' he => ?_
          cases e with
          | returned v =>
            exact call_back h hm hnd hns (fun _ => Iff.rfl) i2 hμ (i5 _).1 (i5 _).2 c3' (by rw [← hio]; exact c4) he hM hn' hfresh hold
          | panicked c => exact he
          | outgrown => exact he
      · cases hh

theorem frz_is [Laid] {wr : Nat → Bool} (hwr : ∀ n, wr n = true → G.nio ≤ n) : ∀ {ns : List Nat} {H Hm : Heap} {cx : Cx}, RH G M H cx w → (∀ n o, Hm n = some o → H n = some o) →
    ∃ cx1, RH G M (H.upd (frz wr Hm ns)) cx1 w ∧ Tr 0 0 cx w cx1 w ∧ (∀ n o, Hm.upd (frz wr Hm ns) n = some o → H.upd (frz wr Hm ns) n = some o) ∧ ∀ m o, H.upd (frz wr Hm ns) m = some o → ∃ o0, H m = some o0 ∧ (o = o0 ∨ o.names = [])
  | [], H, Hm, cx, h, hm => ⟨cx, h, Tr.refl _ _ _, hm, fun m o ho => ⟨o, ho, .inl rfl⟩⟩
  | n :: ns, H, Hm, cx, h, hm => by
    simp only [frz]
    split
    · rename_i Et e d ver xs hn
      split
      · rename_i hw
        obtain ⟨cx1, h1, h2, _⟩ := h.freeze (hm _ _ hn) (hwr n hw) 0
        obtain ⟨cx2, h3, h4, h5, h6⟩ := frz_is hwr (ns := ns) (H := fun m => if m = n then some (.fro Et e xs) else H m) (Hm := fun m => if m = n then some (.fro Et e xs) else Hm m) h1 (fun m o ho => by
          by_cases hmn : m = n
          · simp only [hmn, if_true] at ho ⊢; exact ho
          · simp only [hmn, if_false] at ho ⊢; exact hm m o ho)
        refine ⟨cx2, h3, h2.trans h4 (Nat.le_refl _) (Nat.le_refl _), h5, fun m o ho => ?_⟩
        obtain ⟨o0, g1, g2⟩ := h6 m o ho
        by_cases hmn : m = n
        · subst hmn
          simp only [if_true, Option.some.injEq] at g1
          subst g1
          refine ⟨_, hm _ _ hn, .inr ?_⟩
          rcases g2 with rfl | g2
          · rfl
          · exact g2
        · simp only [hmn, if_false] at g1; exact ⟨o0, g1, g2⟩
      · exact frz_is hwr h hm
    · exact frz_is hwr h hm

def LV.dsls : LV → List (Nat × Nat)
  | .dsl n ver _ _ _ _ _ => [(n, ver)]
  | _ => []

def SV.dsls : SV → List (Nat × Nat)
  | .lf v => v.dsls
  | .agg cs => cs.flatMap LV.dsls
  | .tup vs => vs.flatMap fun v => v.2.flatMap LV.dsls
  | _ => []

section
variable {cx1 cx2 : Cx}
/-- names may get other objects, as far as a value cares -/
structure Re (cx1 cx2 : Cx) (ns : List Nat) (ds : List (Nat × Nat)) : Prop where
  S : cx2.S = cx1.S
  μ : ∀ n ∈ ns, (cx2.μ n).v = (cx1.μ n).v ∧ (cx2.μ n).len = (cx1.μ n).len ∧ (cx2.μ n).es = (cx1.μ n).es
  ds : ∀ p ∈ ds, ((cx2.μ p.1).ver = (cx1.μ p.1).ver ∧ (cx2.μ p.1).foot = (cx1.μ p.1).foot) ∨ p.2 < (cx2.μ p.1).ver

theorem Re.mono {ns ms : List Nat} {ds es : List (Nat × Nat)} (h : Re cx1 cx2 ns ds) (h1 : ∀ n ∈ ms, n ∈ ns) (h2 : ∀ p ∈ es, p ∈ ds) : Re cx1 cx2 ms es := ⟨h.S, fun n hn => h.μ n (h1 n hn), fun p hp => h.ds p (h2 p hp)⟩

theorem VC.re {c : Cap} {v : Value} (h : Re cx1 cx2 (match c with | .ptr n => [n] | _ => []) []) (hv : VC cx1 w c v) : VC cx2 w c v := by
  cases c with
  | ptr n => obtain ⟨g, e, hv⟩ := hv; exact ⟨g, e, by rw [(h.μ n (by simp)).1]; exact hv⟩
  | cptr t x => show CP w cx2.S t x 0 v; rw [h.S]; exact hv

theorem VL.re [Laid] {c : LV} {v : Value} (h : Re cx1 cx2 c.names c.dsls) (hv : VL cx1 w c v) : VL cx2 w c v := by
  cases c with
  | int | bool | str | nil | isnil => exact hv
  | sl E e xs => show Rd w cx2.S _ _ _; rw [h.S]; exact hv
  | ref n => have := h.μ n (by simp [LV.names]); exact ⟨by rw [this.1]; exact hv.1, hv.2⟩
  | sub n lo hi => obtain ⟨e1, e2, e3⟩ := h.μ n (by simp [LV.names]); simp only [VL] at hv ⊢; rw [e1, e2, e3]; exact hv
  | dsl n ver i off E e xs =>
    obtain ⟨h1, h2, h3⟩ := hv
    rcases h.ds (n, ver) (by simp [LV.dsls]) with ⟨g1, g2⟩ | g
    · have hm := h.μ n (by simp [LV.names])
      refine ⟨by rw [g1]; exact h1, fun hh => ?_, h3⟩
      have h4 := h2 (by rw [← g1]; exact hh)
      exact ⟨by rw [g2]; exact h4.1, h4.2.mono hm.1 hm.2.1 hm.2.2 g2 fun _ _ => rfl⟩
    · exact ⟨Nat.le_of_lt g, fun hh => by simp only at g; omega, h3⟩
  | ptr n off => have := h.μ n (by simp [LV.names]); simp only [VL] at hv ⊢; rw [this.1]; exact hv
  | vptr n i off => obtain ⟨e1, e2, e3⟩ := h.μ n (by simp [LV.names]); simp only [VL] at hv ⊢; rw [e1, e2, e3]; exact hv
  | cptr t x off => show CP w cx2.S t x off v; rw [h.S]; exact hv
  | fn f cs =>
    obtain ⟨vs, e, hc⟩ := hv
    refine ⟨vs, e, hc.mono fun c hm b hb => VC.re ⟨h.S, fun n hn => h.μ n ?_, fun p hp => by cases hp⟩ hb⟩
    cases c with
    | ptr m => simp at hn; subst hn; exact List.mem_filterMap.2 ⟨_, hm, rfl⟩
    | cptr t x => cases hn

theorem VLs.re [Laid] {cs : List LV} {vs : List Value} (h : Re cx1 cx2 (cs.flatMap LV.names) (cs.flatMap LV.dsls)) (hv : All2 (VL cx1 w) cs vs) : All2 (VL cx2 w) cs vs :=
  hv.mono fun c hc v hv => VL.re (h.mono (fun n hn => List.mem_flatMap.2 ⟨c, hc, hn⟩) fun p hp => List.mem_flatMap.2 ⟨c, hc, hp⟩) hv

theorem VR.re [Laid] {c : SV} {v : Value} (h : Re cx1 cx2 c.names c.dsls) (hv : VR cx1 w c v) : VR cx2 w c v := by
  cases c with
  | top | undef => exact hv
  | lf c => exact VL.re h hv
  | agg cs => obtain ⟨vs, e, hv⟩ := hv; exact ⟨vs, e, VLs.re h hv⟩
  | tup ts =>
    obtain ⟨vs, e, hv⟩ := hv
    refine ⟨vs, e, hv.mono fun t ht u hu => ?_⟩
    have ht' : Re cx1 cx2 (t.2.flatMap LV.names) (t.2.flatMap LV.dsls) := h.mono (fun n hn => List.mem_flatMap.2 ⟨t, ht, hn⟩) fun p hp => List.mem_flatMap.2 ⟨t, ht, hp⟩
    unfold VP at *
    split
    · rename_i h1; simp only [h1, if_true] at hu; obtain ⟨vs, e, hu⟩ := hu; exact ⟨vs, e, VLs.re ht' hu⟩
    · rename_i h1; simp only [h1] at hu
      obtain ⟨c, hcc, hu⟩ := hu
      rw [hcc] at ht'
      exact ⟨c, hcc, VL.re (by simpa using ht') hu⟩

end
theorem LV.dsl_name {c : LV} {p : Nat × Nat} (h : p ∈ c.dsls) : p.1 ∈ c.names := by
  cases c <;> simp [LV.dsls] at h
  subst h; simp [LV.names]

theorem LVs.dsl_name [Laid] {cs : List LV} {p : Nat × Nat} (h : p ∈ cs.flatMap LV.dsls) : p.1 ∈ cs.flatMap LV.names := by
  obtain ⟨c, hc, hp⟩ := List.mem_flatMap.1 h
  exact List.mem_flatMap.2 ⟨c, hc, LV.dsl_name hp⟩

theorem SV.dsl_name [Laid] {c : SV} {p : Nat × Nat} (h : p ∈ c.dsls) : p.1 ∈ c.names := by
  cases c with
  | top | undef => simp [SV.dsls] at h
  | lf c => exact LV.dsl_name h
  | agg cs => exact LVs.dsl_name h
  | tup ts =>
    obtain ⟨t, ht, hp⟩ := List.mem_flatMap.1 h
    exact List.mem_flatMap.2 ⟨t, ht, LVs.dsl_name hp⟩

/-- a row that is written, and may get new memory -/
theorem RH.set2 [Laid] (h : RH G M H cx w) {n : Nat} {o0 : Ob} (hn : H n = some o0) (nx : Nat) (o : Ob) (r : RO) (hst : Stays w w' (cx.μ n).foot)
    (hr : r.v = (cx.μ n).v ∧ r.len = (cx.μ n).len ∧ r.es = (cx.μ n).es ∧ r.ver = (cx.μ n).ver + 1) (hfoot : ∀ b ∈ r.foot, b ∈ (cx.μ n).foot ∨ w.heap.size ≤ b ∧ b < w'.heap.size) (hnd : r.foot.Nodup)
    (hob : ObR (cx.at n r) w' r o) :
    RH G M (fun m => if m = n then some o else H m) (cx.at n r) w' ∧ Tr nx nx cx w (cx.at n r) w' := by
  have hsm : ∀ m o', m ≠ n → H m = some o' → ∀ b ∈ (cx.μ m).foot, Same w w' b := fun m o' hne hm b hb =>
    hst.same b (h.mine m o' b hm hb).2.1 fun hb' => h.dj m n o' o0 hm hn hne b hb hb'
  have hSw : ∀ b, cx.S b → Same w w' b := fun b hb => hst.same b (h.ss b hb) fun hb' => (h.mine n o0 b hn hb').2.2 hb
  have htr : Tr nx nx cx w (cx.at n r) w' := ⟨fun b hb => hb, hSw, fun m _ => by
    by_cases hm : m = n
    · subst hm; rw [Cx.at_self]; exact ⟨hr.1, hr.2.1, hr.2.2.1, by omega, fun hv => absurd hv (by omega)⟩
    · rw [Cx.at_other _ _ _ _ hm]
      refine ⟨rfl, rfl, rfl, Nat.le_refl _, fun _ => ⟨rfl, fun b hb => ?_⟩⟩
      cases hm' : H m with
      | none => rw [h.dead m hm'] at hb; cases hb
      | some o' => exact hsm m o' hm hm' b hb⟩
  refine ⟨?_, htr⟩
  refine h.step (fun m => m = n) (Nat.le_refl _) (fun m hm => ⟨if_neg hm, Cx.at_other _ _ _ _ hm⟩) (fun m o' hne hm => hsm m o' hne hm) ?_ ?_ ?_ ?_ ?_ ?_ hst.os hst.tape hst.output hst.size ?_ htr fun m o' _ _ k _ => by omega
  · rintro m o' rfl ho
    simp at ho; subst ho
    rw [Cx.at_self]
    refine ⟨hob, h.lt _ _ hn, hnd, fun b hb => ?_⟩
    rcases hfoot b hb with hb | hb
    · obtain ⟨h1, h2, h3⟩ := h.mine m o0 b hn hb
      exact ⟨h1, Nat.lt_of_lt_of_le h2 hst.size, h3⟩
    · exact ⟨.inl (Nat.le_trans h.size hb.1), hb.2, fun hS => absurd (h.ss b hS) (by omega)⟩
  · rintro m rfl ho; simp at ho
  · rintro m k o1 o2 rfl h1 hne h2 b hb hb'
    rw [Cx.at_self] at hb
    rcases hfoot b hb with hb | hb
    · exact h.dj m k o0 o2 hn h2 (Ne.symm hne) b hb hb'
    · have := (h.mine k o2 b h2 hb').2.1; omega
  · rintro m k o1 o2 rfl rfl _ _ hne; exact absurd rfl hne
  · rintro m o' b hm ho hb hS; exact (h.mine m o' b ho hb).2.2 hS
  · rintro b hb; exact ⟨Nat.lt_of_lt_of_le (h.ss b hb) hst.size, h.sg b hb⟩
  · intro b hb hl
    refine hst.same b (Nat.lt_of_lt_of_le hb h.size) fun hbf => ?_
    have := (h.mine n o0 b hn hbf).1
    rcases this with h1 | h1
    · omega
    · exact hl h1.2

/-- a slice inside an element, out of it and in again -/
theorem Ow.part {E : TypeId} {e : Ty} {off : Nat} {v : Value} {zs : List e.den} : ∀ {t : Ty} {o : Nat} {cs : List Value} {x : t.den} {bs : List Nat}, Ow w t cs x bs → o ≤ off → cs[off - o]? = some v → Ty.getS E e off t x o = some zs →
    ∃ p b1 b2 : List Nat, bs = b1 ++ p ++ b2 ∧ Row1 w E e.size (Ow w e) v zs p ∧ ∀ (w' : World) (ys : List e.den) (y : t.den) (p' : List Nat), Ty.setS E e ys off t x o = some y → Row1 w' E e.size (Ow w' e) v ys p' →
      (∀ b ∈ b1 ++ b2, Same w w' b) → Ow w' t cs y (b1 ++ p' ++ b2)
  | .int _, _, _, _, _, _, _, _, h => by simp [Ty.getS] at h
  | .bool, _, _, _, _, _, _, _, h => by simp [Ty.getS] at h
  | .str, _, _, _, _, _, _, _, h => by simp [Ty.getS] at h
  | .pair a b, o, cs, x, bs, ho, hle, hv, hg => by
    obtain ⟨c1, c2, b1, b2, rfl, rfl, h1, h2⟩ := ho
    have hl := h1.size
    simp only [Ty.getS] at hg
    split at hg
    · rename_i hlt
      obtain ⟨p, d1, d2, rfl, hr, hk⟩ := Ow.part h1 hle (by rw [List.getElem?_append_left (by omega)] at hv; exact hv) hg
      refine ⟨p, d1, d2 ++ b2, by simp, hr, fun w' ys y p' hs hr' hw => ?_⟩
      simp only [Ty.setS, hlt, if_true] at hs
      split at hs
      · rename_i q hq
        simp only [Option.some.injEq] at hs; subst hs
        exact ⟨c1, c2, d1 ++ p' ++ d2, b2, rfl, by simp, hk w' ys q p' hq hr' fun b hb => hw b (by
          rcases List.mem_append.1 hb with h | h
          · simp [h]
          · simp [h]), h2.mono fun b hb => hw b (by simp [hb])⟩
      · cases hs
    · rename_i hlt
      obtain ⟨p, d1, d2, rfl, hr, hk⟩ := Ow.part h2 (by omega) (by rw [List.getElem?_append_right (by omega), hl] at hv; rw [← hv]; congr 1; omega) hg
      refine ⟨p, b1 ++ d1, d2, by simp, hr, fun w' ys y p' hs hr' hw => ?_⟩
      simp only [Ty.setS, hlt, if_false] at hs
      split at hs
      · rename_i q hq
        simp only [Option.some.injEq] at hs; subst hs
        exact ⟨c1, c2, b1, d1 ++ p' ++ d2, rfl, by simp, h1.mono fun b hb => hw b (by simp [hb]), hk w' ys q p' hq hr' fun b hb => hw b (by
          rcases List.mem_append.1 hb with h | h
          · simp [h]
          · simp [h])⟩
      · cases hs
  | .slice E' e', o, cs, x, bs, ho, hle, hv, hg => by
    obtain ⟨u, rfl, hr⟩ := ho
    simp only [Ty.getS] at hg
    split at hg
    · rename_i hoff
      subst hoff
      obtain ⟨he, hE, hz⟩ := asRows_some hg
      subst he; subst hE
      rw [castL_rfl] at hz; subst hz
      simp at hv; subst hv
      refine ⟨bs, [], [], by simp, hr, fun w' ys y p' hs hr' _ => ?_⟩
      simp only [Ty.setS, if_true] at hs
      obtain ⟨_, _, hz⟩ := asRows_some hs
      rw [castL_rfl] at hz; subst hz
      exact ⟨u, rfl, by simpa using hr'⟩
    · cases hg

/-- one part of a row is put anew -/
theorem All3.put {α β γ : Type} {r r' : α → β → List γ → Prop} : ∀ {x : List α} {y : List β} {z : List (List γ)} {i : Nat} {a : α} {b b' : β} {c c' : List γ}, All3 r x y z → z.flatten.Nodup → x[i]? = some a → z[i]? = some c →
    (∀ p q s, s ∈ z → (∀ k ∈ s, k ∉ c) → r p q s → r' p q s) → r' a b' c' → All3 r' x (y.set i b') (z.set i c')
  | [], _, _, _, _, _, _, _, _, _, _, h, _, _, _ => by simp at h
  | _ :: _, [], _, _, _, _, _, _, _, h, _, _, _, _, _ => h.elim
  | _ :: _, _ :: _, [], _, _, _, _, _, _, h, _, _, _, _, _ => h.elim
  | x :: xs, y :: ys, z :: zs, 0, a, b, b', c, c', h, hn, hx, hz, hk, hr => by
    simp at hx hz; subst hx; subst hz
    rw [List.flatten_cons, List.nodup_append] at hn
    refine ⟨hr, h.2.mono fun p q s hs hh => hk p q s (List.mem_cons_of_mem _ hs) (fun k hks hkc => hn.2.2 k hkc k (List.mem_flatten.2 ⟨s, hs, hks⟩) rfl) hh⟩
  | x :: xs, y :: ys, z :: zs, i + 1, a, b, b', c, c', h, hn, hx, hz, hk, hr => by
    rw [List.flatten_cons, List.nodup_append] at hn
    have hz' : zs[i]? = some c := by simpa using hz
    refine ⟨hk _ _ _ (List.mem_cons_self) (fun k hks hkc => hn.2.2 k hks k (List.mem_flatten.2 ⟨c, List.mem_of_getElem? hz', hkc⟩) rfl) h.1, ?_⟩
    exact All3.put (b := b) h.2 hn.2.1 (by simpa using hx) hz' (fun p q s hs => hk p q s (List.mem_cons_of_mem _ hs)) hr

theorem VR.alone [Laid] {cx1 : Cx} (hS : cx1.S = cx.S) {x : SV} {v : Value} (hx : x.names.isEmpty = true) (hv : VR cx w x v) : VR cx1 w x v := by
  have hx' : x.names = [] := by simpa using hx
  exact VR.re ⟨hS, fun n hn => (by rw [hx'] at hn; cases hn), fun p hp => (by have := SV.dsl_name hp; rw [hx'] at this; cases this)⟩ hv
theorem VR.plain {cx1 : Cx} {x : SV} {v : Value} (hx : x.plain = true) (hv : VR cx w x v) : VR cx1 w x v := by
  have key : ∀ {c : LV} {u : Value}, c.plain = true → VL cx w c u → VL cx1 w c u := fun {c u} hc hu => by
    cases c <;> first | exact hu | cases hc
  have keys : ∀ {cs : List LV} {us : List Value}, cs.all LV.plain = true → All2 (VL cx w) cs us → All2 (VL cx1 w) cs us := fun hc hu => hu.mono fun c hm b hb => key (List.all_eq_true.1 hc c hm) hb
  cases x with
  | top | undef => cases hx
  | lf c => exact key hx hv
  | agg cs => obtain ⟨vs, e, hv⟩ := hv; exact ⟨vs, e, keys hx hv⟩
  | tup ts =>
    obtain ⟨vs, e, hv⟩ := hv
    refine ⟨vs, e, hv.mono fun t ht u hu => ?_⟩
    have h1 : t.2.all LV.plain = true := List.all_eq_true.1 hx t ht
    unfold VP at hu ⊢
    split
    · rename_i hb; rw [if_pos hb] at hu; obtain ⟨us, e, hu⟩ := hu; exact ⟨us, e, keys h1 hu⟩
    · rename_i hb; rw [if_neg hb] at hu; obtain ⟨c, e, hu⟩ := hu
      refine ⟨c, e, key ?_ hu⟩
      rw [e] at h1; simpa using h1

theorem dsl_args [Laid] : ∀ {svs : List SV} {vals : List Value} {d : Dsl}, All2 (VR cx w) svs vals → dslIn svs = some d → dslAlone svs = true →
    ∃ v xs, VL cx w (.dsl d.n d.ver d.i d.off d.E d.e xs) v ∧ ∀ cx1 : Cx, cx1.S = cx.S → (cx1.μ 0).v = v → All2 (VR cx1 w) (dslOut svs) vals
  | [], _, _, _, h, _ => by simp [dslIn] at h
  | _ :: _, [], _, h, _, _ => h.elim
  | x :: svs, v :: vals, d, hv, hd, ha => by
    by_cases hx : ∃ n ver i off E e xs, x = .lf (.dsl n ver i off E e xs)
    · obtain ⟨n, ver, i, off, E, e, xs, rfl⟩ := hx
      simp only [dslIn, Option.some.injEq] at hd; subst hd
      simp only [dslAlone, List.all_eq_true] at ha
      refine ⟨v, xs, hv.1, fun cx1 hS h0 => ⟨?_, hv.2.mono fun c hc u hu => VR.alone hS (ha c hc) hu⟩⟩
      obtain ⟨_, _, ⟨A, l, c, e1⟩, _⟩ := hv.1
      exact ⟨h0.symm, A, l, c, e1⟩
    · have hx' : ∀ n ver i off E e xs, x = .lf (.dsl n ver i off E e xs) → False := fun n ver i off E e xs he => hx ⟨n, ver, i, off, E, e, xs, he⟩
      have e1 : dslIn (x :: svs) = dslIn svs := by rw [dslIn]; exact hx'
      have e2 : dslOut (x :: svs) = x :: dslOut svs := by rw [dslOut]; exact hx'
      have e3 : x.names.isEmpty = true ∧ dslAlone svs = true := by
        rw [dslAlone] at ha
        · simpa using ha
        · exact hx'
      rw [e1] at hd
      obtain ⟨v', xs, h1, h2⟩ := dsl_args hv.2 hd e3.2
      exact ⟨v', xs, h1, fun cx1 hS h0 => by rw [e2]; exact ⟨VR.alone hS e3.1 hv.1, h2 cx1 hS h0⟩⟩

theorem callDsl_is [Laid] (h : RH G M H cx w) (hm : ∀ n o, Hm n = some o → H n = some o) {wr : Nat → Bool} {f : FuncId} {en : Entry} (hcon : ∀ a, ContractAt P f en.sig en.F a) {svs : List SV} {vals : List Value} (hv : All2 (VR cx w) svs vals) {R : Type} {r : R} {K : SV → Upd → Nat → Option R}
    (hh : callDsl E Hm wr en svs nx K = some r) :
    ∃ sv u, (∀ {R : Type} (K : SV → Upd → Nat → Option R), callDsl E Hm wr en svs nx K = K sv u nx) ∧ ∀ {M' : Nat}, M ≤ M' →
      Calls P f vals.toArray w fun e w' => match e with | .returned v => After G M' (H.upd u) nx nx cx w sv v w' | _ => False := by
  unfold callDsl at hh
  split at hh
  · cases hh
  rename_i d hd
  split at hh
  case h_2 => cases hh
  rename_i T e ver xs hn
  split at hh
  case isFalse => cases hh
  rename_i hc
  split at hh
  · cases hh
  rename_i zs hz
  have hc' := hc
  simp only [Bool.and_eq_true, beq_iff_eq, List.isEmpty_iff] at hc'
  obtain ⟨⟨⟨hver0, hwr⟩, hal⟩, hg⟩ := hc'
  obtain ⟨v, xs0, hvl, hargs⟩ := dsl_args hv hd hal
  obtain ⟨hver, hl, hes, hrow⟩ := h.ob d.n _ (hm _ _ hn)
  obtain ⟨_, hat, _, _⟩ := hvl
  obtain ⟨_, i0, i1, g, cap, e1, hgf, hoff, hcell⟩ := hat (by omega)
  rw [hl] at i1 e1
  rcases hrow with ⟨hx, _⟩ | ⟨g', cap', cur, css, bss, f1, f2, f3, f4, f5, f6, f7, f8⟩
  · rw [hx] at i1; simp at i1; omega
  rw [f1] at e1
  simp only [Value.slice.injEq, Option.some.injEq, Addr.mk.injEq, and_true, true_and] at e1
  obtain ⟨rfl, rfl⟩ := e1
  have hi : d.i.toNat < xs.length := by omega
  obtain ⟨ci, bi, c1, c2, hEl⟩ := All3.get _ _ _ f8 d.i.toNat hi
  have hEl' : Ow w e ci xs[d.i.toNat] bi := hEl
  have hrd : N.rd xs d.i e.dflt = xs[d.i.toNat] := rd_getD xs d.i _ i0 i1
  rw [hes] at hoff hcell
  have hcl : ∀ c ∈ css, c.length = e.size := fun c hc => by
    obtain ⟨k, hk, ek⟩ := List.getElem_of_mem hc
    have := f8.len
    obtain ⟨c', b', e3, _, hE'⟩ := All3.get _ _ _ f8 k (by omega)
    have : c' = c := by rw [List.getElem?_eq_getElem hk] at e3; simpa [ek] using e3.symm
    exact this ▸ hE'.size
  have hcv : ci[d.off]? = some v := by
    have hlen : d.off < ci.length := by rw [hEl'.size]; exact hoff
    have hu := List.getElem?_eq_getElem hlen
    have hf := flatten_get e.size_pos css hcl d.i.toNat ci c1 d.off _ hu
    rw [← f6, List.getElem?_take] at hf
    split at hf
    · have : w.cell? ⟨g', d.i.toNat * e.size + d.off, none⟩ = cur[d.i.toNat * e.size + d.off]? := by simp [World.cell?, f2]
      rw [this] at hcell
      rw [hu]
      have hf' : cur[d.i.toNat * e.size + d.off]? = some ci[d.off] := by simpa using hf
      rw [hcell] at hf'; exact hf'.symm
    · cases hf
  rw [hrd] at hz
  obtain ⟨p, b1, b2, hbi, hpr, hput⟩ := Ow.part (o := 0) hEl' (Nat.zero_le _) (by simpa using hcv) hz
  have hbim : ∀ b ∈ bi, b ∈ bss.flatten := fun b hb => List.mem_flatten.2 ⟨bi, List.mem_of_getElem? c2, hb⟩
  have hpf : ∀ b ∈ p, b ∈ (cx.μ d.n).foot := fun b hb => by rw [f7]; exact List.mem_cons_of_mem _ (hbim b (by rw [hbi]; simp [hb]))
  have hnd := h.nd d.n _ (hm _ _ hn)
  rw [f7, List.nodup_cons] at hnd
  have hbin : bi.Nodup := nodup_of_flatten hnd.2 (List.mem_of_getElem? c2)
  have hpn : p.Nodup := by rw [hbi, List.nodup_append, List.nodup_append] at hbin; exact hbin.1.2.1
  let cx1 : Cx := { S := cx.S, μ := fun m => if m = 0 then ⟨v, zs.length, d.e.size, 0, p⟩ else noRO }
  let G1 : Base := ⟨w, cx.S, (· ∈ p), 1⟩
  let H1 : Heap := fun m => if m = 0 then some (.vec d.E d.e true 0 zs) else none
  have hH1 : ∀ {m o}, H1 m = some o → m = 0 ∧ o = .vec d.E d.e true 0 zs := fun {m o} hmo => by
    simp only [H1] at hmo; split at hmo
    · rename_i hm0; simp at hmo; exact ⟨hm0, hmo.symm⟩
    · cases hmo
  have h1 : RH G1 1 H1 cx1 w := by
    refine ⟨fun m o hmo => ?_, fun m o hmo => ?_, fun m hmo => ?_, fun m k o o' hmo hko hne => ?_, fun m o hmo => ?_, fun m o b hmo hb => ?_, fun b hb => h.ss b hb, fun b hb => .inl hb, rfl, rfl, rfl, Nat.le_refl _, fun _ _ _ => rfl, h.now, fun b hb hbp => by
      rcases (h.mine d.n _ b (hm _ _ hn) (hpf b hbp)).1 with h1 | ⟨_, h1⟩
      · have := Laid.lt _ _ h.laid.1 hb
        omega
      · exact h.laid.2 b hb h1⟩
    · obtain ⟨rfl, rfl⟩ := hH1 hmo
      exact ⟨rfl, rfl, rfl, hpr⟩
    · obtain ⟨rfl, rfl⟩ := hH1 hmo; exact Nat.zero_lt_one
    · simp only [H1] at hmo; split at hmo
      · cases hmo
      · rename_i hm0; simp only [cx1, if_neg hm0]; rfl
    · obtain ⟨rfl, rfl⟩ := hH1 hmo; obtain ⟨rfl, rfl⟩ := hH1 hko; exact absurd rfl hne
    · obtain ⟨rfl, rfl⟩ := hH1 hmo; exact hpn
    · obtain ⟨rfl, rfl⟩ := hH1 hmo
      have hb' := h.mine d.n _ b (hm _ _ hn) (hpf b hb)
      exact ⟨.inr ⟨Nat.zero_lt_one, hb⟩, hb'.2.1, hb'.2.2⟩
  obtain ⟨sv, u, n', k1, k2, k3⟩ := callCore_is (E := { E with nio := 1 }) (G := G1) rfl h1 (fun _ _ h => h) hcon (by rw [hg]; rfl) (hargs cx1 rfl rfl) hh
  rw [k1] at hh
  split at hh
  case h_2 => cases hh
  rename_i E2 e2 ver2 ys
  split at hh
  case isFalse => cases hh
  rename_i hpl
  split at hh
  · cases hh
  rename_i ys' hys
  split at hh
  · cases hh
  rename_i y hy
  refine ⟨sv, [(d.n, some (.vec T e true (ver + 1) (N.set xs d.i y)))], fun K => ?_, fun {M'} hM => ?_⟩
  · simp only [callDsl, hd, hn]
    rw [if_pos hc]
    simp only [hrd, hz]
    rw [k1]
    simp only [hpl, if_true, hys]
    rw [hrd] at hy
    simp only [hy]
  refine Calls.mono (k3 (M' := 1 + n') (by omega) (by omega) (fun m o hm1 hm2 ho => ?_) (fun m o ho => ?_)) fun ex w' he => ?_
  · obtain ⟨rfl, _⟩ := hH1 ho; omega
  · obtain ⟨_, rfl⟩ := hH1 ho; intro q hq; cases hq
  cases ex with
  | returned rv =>
    obtain ⟨cx2, q1, q2, q3⟩ := he
    obtain ⟨he, hE, hcz⟩ := asRows_some hys
    subst he; subst hE
    rw [castL_rfl] at hcz; subst hcz
    rw [hrd] at hy
    obtain ⟨_, _, _, hrow2⟩ := q2.ob 0 (.vec d.E d.e true ver2 ys) (by simp [Heap.upd])
    have hv0 : (cx2.μ 0).v = v := (q3.μ 0 (by omega)).1
    rw [hv0] at hrow2
    have hmine : ∀ b ∈ (cx2.μ 0).foot, (w.heap.size ≤ b ∨ b ∈ p) ∧ b < w'.heap.size := fun b hb => by
      have := q2.mine 0 (.vec d.E d.e true ver2 ys) b (by simp [Heap.upd]) hb
      exact ⟨this.1.imp id fun h => h.2, this.2.1⟩
    have hnd2 : (cx2.μ 0).foot.Nodup := q2.nd 0 (.vec d.E d.e true ver2 ys) (by simp [Heap.upd])
    generalize (cx2.μ 0).foot = p2 at hrow2 hmine hnd2
    have hrow2' : Row1 w' d.E d.e.size (Ow w' d.e) v ys p2 := hrow2
    have hsame : ∀ b, b < w.heap.size → b ∉ p → Same w w' b := fun b hb hp => q2.block b hb hp
    have hold : ∀ b ∈ (cx.μ d.n).foot, b < w.heap.size := fun b hb => (h.mine d.n _ b (hm _ _ hn) hb).2.1
    have hbif : ∀ b ∈ bi, b ∈ (cx.μ d.n).foot := fun b hb => by rw [f7]; exact List.mem_cons_of_mem _ (hbim b hb)
    have hbin' := hbin
    rw [hbi, List.nodup_append, List.nodup_append] at hbin'
    have hout : ∀ b ∈ b1 ++ b2, b ∈ bi ∧ b ∉ p := fun b hb => by
      rcases List.mem_append.1 hb with hb | hb
      · exact ⟨by rw [hbi]; simp [hb], fun hp => hbin'.1.2.2 b hb b hp rfl⟩
      · exact ⟨by rw [hbi]; simp [hb], fun hp => hbin'.2.2 b (by simp [hp]) b hb rfl⟩
    have hsb : ∀ b ∈ b1 ++ b2, Same w w' b := fun b hb => hsame b (hold b (hbif b (hout b hb).1)) (hout b hb).2
    have hnew := hput w' ys y p2 hy hrow2' hsb
    have hlb : d.i.toNat < bss.length := (List.getElem?_eq_some_iff.1 c2).1
    have hbie : bss[d.i.toNat] = bi := (List.getElem?_eq_some_iff.1 c2).2
    have hp2 : ∀ b ∈ b1 ++ p2 ++ b2, b ∈ bi ∨ w.heap.size ≤ b ∧ b < w'.heap.size := fun b hb => by
      by_cases h2 : b ∈ p2
      · rcases hmine b h2 with ⟨h3 | h3, h4⟩
        · exact .inr ⟨h3, h4⟩
        · exact .inl (by rw [hbi]; simp [h3])
      · exact .inl (hout b (by
          simp only [List.mem_append] at hb ⊢
          rcases hb with (hb | hb) | hb
          · exact .inl hb
          · exact absurd hb h2
          · exact .inr hb)).1
    have hgp : g' ∉ p := fun hp => hnd.1 (hbim g' (by rw [hbi]; simp [hp]))
    have hgs : g' < w.heap.size := hold g' hgf
    let ro : RO := ⟨(cx.μ d.n).v, (cx.μ d.n).len, (cx.μ d.n).es, (cx.μ d.n).ver + 1, g' :: (bss.set d.i.toNat (b1 ++ p2 ++ b2)).flatten⟩
    have q4 : ∀ b ∈ ro.foot, b ∈ (cx.μ d.n).foot ∨ w.heap.size ≤ b ∧ b < w'.heap.size := fun b hb => by
      rcases List.mem_cons.1 hb with rfl | hb
      · exact .inl hgf
      · rcases flatten_mem_set hb with hb | hb
        · exact .inl (by rw [f7]; exact List.mem_cons_of_mem _ hb)
        · exact (hp2 b hb).imp (hbif b) id
    have q5 : ro.foot.Nodup := by
      show (g' :: (bss.set d.i.toNat (b1 ++ p2 ++ b2)).flatten).Nodup
      rw [List.nodup_cons]
      constructor
      · intro hb
        rcases flatten_mem_set hb with hb | hb
        · exact hnd.1 hb
        · rcases hp2 g' hb with h3 | h3
          · exact hnd.1 (hbim g' h3)
          · omega
      · refine nodup_flatten_set hlb hnd.2 ?_ fun b hb => ?_
        · rw [List.nodup_append, List.nodup_append]
          have hx : ∀ b ∈ p2, b ∉ b1 ++ b2 := fun b hb hb' => by
            rcases (hmine b hb).1 with h3 | h3
            · have := hold b (hbif b (hout b hb').1); omega
            · exact (hout b hb').2 h3
          refine ⟨⟨hbin'.1.1, hnd2, fun a ha c hc e => ?_⟩, hbin'.2.1, fun a ha c hc e => ?_⟩
          · subst e; exact hx a hc (by simp [ha])
          · subst e
            rcases List.mem_append.1 ha with ha | ha
            · exact hbin'.2.2 a (by simp [ha]) a hc rfl
            · exact hx a ha (by simp [hc])
        · rw [hbie]
          rcases hp2 b hb with h3 | h3
          · exact .inl h3
          · refine .inr fun hb' => ?_
            have := hold b (by rw [f7]; exact List.mem_cons_of_mem _ hb')
            omega
    have q6 : ObR (cx.at d.n ro) w' ro (.vec T e true (ver + 1) (N.set xs d.i y)) := by
      refine ⟨by rw [hver], (by show (cx.μ d.n).len = _; simp [N.set, hl]), hes, ?_⟩
      refine .inr ⟨g', cap', cur, css, bss.set d.i.toNat (b1 ++ p2 ++ b2), by simpa [N.set] using f1, ?_, by simpa [N.set] using f3, f4, f5, by simpa [N.set] using f6, rfl, ?_⟩
      · rw [hsame g' hgs hgp]; exact f2
      · refine All3.put (r := El w cx.S true e) (b := y) f8 hnd.2 c1 c2 (fun a x s hs hk hE => ?_) hnew
        have hE' : Ow w e a x s := hE
        exact hE'.mono fun b hb => hsame b (hold b (by rw [f7]; exact List.mem_cons_of_mem _ (List.mem_flatten.2 ⟨s, hs, hb⟩))) fun hp => hk b hb (by rw [hbi]; simp [hp])
    obtain ⟨s1, s2⟩ := h.set2 (w' := w') (hm _ _ hn) nx (.vec T e true (ver + 1) (N.set xs d.i y)) ro
      ⟨q2.os, q2.tape, q2.output, q2.size, fun b hb hf => hsame b hb fun hp => hf (hpf b hp)⟩ ⟨rfl, rfl, rfl, rfl⟩ q4 q5 q6
    exact ⟨_, VR.plain hpl q1, s1.mono hM, s2⟩
  | panicked c => exact he
  | outgrown => exact he

theorem callSV_is [Laid] (hΓ : EnvOk P E) (hio : E.nio = G.nio) (h : RH G M H cx w) (hm : ∀ n o, Hm n = some o → H n = some o) {wr : Nat → Bool} {f : FuncId} {svs : List SV} {vals : List Value} (hv : All2 (VR cx w) svs vals) {R : Type} {r : R} {K : SV → Upd → Nat → Option R}
    (hh : callSV E Hm wr f svs nx K = some r) :
    ∃ sv u n', (∀ {R : Type} (K : SV → Upd → Nat → Option R), callSV E Hm wr f svs nx K = K sv u n') ∧ nx ≤ n' ∧ Enterable P f ∧ ∀ {M' : Nat}, M ≤ M' → n' ≤ M' → (∀ m o, nx ≤ m → m < n' → H m ≠ some o) → (∀ m o, H m = some o → o.old nx n') →
      Calls P f vals.toArray w fun e w' => match e with | .returned v => After G M' (H.upd u) nx n' cx w sv v w' | _ => False := by
  unfold callSV at hh
  split at hh
  · cases hh
  · rename_i en hen
    obtain ⟨hent, hcon⟩ := hΓ _ _ _ hen
    split at hh
    · cases hh
    rename_i fargs hfl
    split at hh
    · rename_i hna
      obtain ⟨sv, u, k1, k2⟩ := callDsl_is h hm hcon hv hh
      exact ⟨sv, u, nx, fun K => by simp only [callSV, hen, hfl, hna]; exact k1 K, Nat.le_refl _, hent, fun {M'} hM _ _ _ => k2 hM⟩
    rename_i q0 hq0
    split at hh
    · rename_i hsh
      split at hh
      · cases hh
      rename_i a0 ns0 rs0 hargs0
      have hwr : ∀ n, tk E wr n = true → G.nio ≤ n := fun n hn => by simp [tk, hio] at hn; exact hn.2
      obtain ⟨cx1, h1, h2, h3, h4⟩ := frz_is hwr (ns := rs0) h hm
      have hv1 : All2 (VR cx1 w) svs vals := hv.mono fun s _ u hu => hu.tr h2 fun m _ hh => by omega
      obtain ⟨sv, u, n', k1, k2, k3⟩ := callCore_is hio h1 h3 hcon hfl hv1 hh
      refine ⟨sv, frz (tk E wr) Hm rs0 ++ u, n', fun K => by simp only [callSV, hen, hfl, hargs0]; rw [if_pos hsh]; exact k1 _, k2, hent, fun {M'} hM hn' hfresh hold => ?_⟩
      refine Calls.mono (k3 hM hn' (fun m o hm1 hm2 ho => ?_) (fun m o ho => ?_)) fun e w' he => ?_
      · obtain ⟨o0, g1, _⟩ := h4 m o ho; exact hfresh m o0 hm1 hm2 g1
      · obtain ⟨o0, g1, g2⟩ := h4 m o ho
        rcases g2 with rfl | g2
        · exact hold m o g1
        · intro q hq; rw [g2] at hq; cases hq
      · cases e with
        | returned v =>
          obtain ⟨cx', q1, q2, q3⟩ := he
          have h2' : Tr nx nx cx w cx1 w := ⟨h2.S, h2.hp, fun m _ => h2.μ m (by omega)⟩
          refine ⟨cx', q1, ?_, h2'.trans q3 (Nat.le_refl _) k2⟩
          rw [Heap.upd_append]; exact q2
        | panicked c => exact he
        | outgrown => exact he
    · rename_i hsh
      obtain ⟨sv, u, n', k1, k2, k3⟩ := callCore_is hio h hm hcon hfl hv hh
      exact ⟨sv, u, n', fun K => by simp only [callSV, hen, hfl, hq0]; rw [if_neg hsh]; exact k1 K, k2, hent, k3⟩
end
end Go.Sh

namespace Go.Sh
open Go Go.RowKit

section
variable {cx cx' : Cx} {w w' : World} {G : Base} {M M' nx n' : Nat} {H H' Hm : Heap} {P : Program} {E : Env}

/-- what an operation does, calls too -/
def Goes (P : Program) (ρv : Operand → Value) (o : Oper) (w : World) (Post : Value → World → Prop) : Prop :=
  (∃ v w', (execOp ρv o).run P w = .ok (.value v) w' ∧ Post v w') ∨ (∃ w', (execOp ρv o).run P w = .ok .skip w' ∧ Post undef w') ∨
  ∃ f args w', (execOp ρv o).run P w = .ok (.enter f args) w' ∧ Calls P f args w' fun e w'' => match e with | .returned v => Post v w'' | _ => False

theorem After.pure [Laid] {sv : SV} {v : Value} (h : RH G M H cx w) (hM : M ≤ M') (hv : VR cx w sv v) : After G M' (H.upd []) nx nx cx w sv v w := ⟨cx, hv, h.mono hM, Tr.refl _ _ _⟩

theorem const_sound (v : Value) : VR cx w (constSV v) v := by
  unfold constSV
  split
  · rfl
  · rfl
  · rfl
  · exact ⟨none, rfl⟩
  · trivial

theorem opSV_sound [Laid] {tm : Nat → SV} {a : Act} (h : ∀ t, VR cx w (tm t) (a.eval (.tmp t))) (x : Operand) : VR cx w (opSV tm x) (a.eval x) := by
  cases x with
  | tmp t => exact h t
  | const v => exact const_sound v
  | func f => exact ⟨[], rfl, trivial⟩
  | global g => trivial

theorem capsIn_sound : ∀ {vs : List SV} {cs : List Cap} {us : List Value}, capsIn vs = some cs → All2 (VR cx w) vs us → All2 (VC cx w) cs us
  | [], cs, [], h, _ => by simp [capsIn] at h; subst h; trivial
  | s :: vs, cs, u :: us, h, hv => by
    cases s <;> simp only [capsIn] at h <;> try (cases h; done)
    rename_i c
    split at h
    · rename_i cp hcp
      split at h
      · rename_i ds hds
        simp at h; subst h
        refine ⟨?_, capsIn_sound hds hv.2⟩
        unfold LV.cap at hcp
        split at hcp
        · simp at hcp; subst hcp
          obtain ⟨g, e1, e2⟩ := hv.1
          exact ⟨g, e2, by rw [e1, e2]⟩
        · simp at hcp; subst hcp; exact hv.1
        · cases hcp
      · cases h
    · cases h

theorem capLV_sound : ∀ {cs : List Cap} {us : List Value}, All2 (VC cx w) cs us → All2 (VR cx w) (cs.map fun c => SV.lf (capLV c)) us
  | [], [], _ => trivial
  | c :: cs, u :: us, h => by
    refine ⟨?_, capLV_sound h.2⟩
    cases c with
    | ptr n => obtain ⟨g, e1, e2⟩ := h.1; exact ⟨g, by rw [e2, e1], e1⟩
    | cptr t x => exact h.1

theorem All2.map {α β α' β' : Type} {r : α' → β' → Prop} {f : α → α'} {g : β → β'} : ∀ {x : List α} {y : List β}, All2 (fun a b => r (f a) (g b)) x y → All2 r (x.map f) (y.map g)
  | [], [], _ => trivial
  | _ :: _, _ :: _, h => ⟨h.1, All2.map h.2⟩

theorem All2.same {α : Type} {r : α → α → Prop} : ∀ {x : List α}, (∀ a ∈ x, r a a) → All2 r x x
  | [], _ => trivial
  | a :: x, h => ⟨h a (by simp), All2.same fun b hb => h b (List.mem_cons_of_mem _ hb)⟩

theorem args_all [Laid] {ρ : Operand → SV} {ρv : Operand → Value} (hρ : ∀ x, VR cx w (ρ x) (ρv x)) (l : List Operand) : All2 (VR cx w) (l.map ρ) (l.map ρv) :=
  All2.map (All2.same fun a _ => hρ a)

theorem sameOpnd_eq {a b : Operand} (h : sameOpnd a b = true) : a = b := by
  unfold sameOpnd at h
  split at h
  · simp at h; rw [h]
  · simp at h; rw [h.1, h.2]
  · cases h

theorem zero_old {t : Ty} : ∀ c ∈ t.zero, c.old nx n' := by
  induction t with
  | int | bool | str | slice => intro c hc; simp [Ty.zero] at hc; subst hc; intro m hm; simp [LV.names] at hm
  | pair a b ha hb =>
    intro c hc
    rcases List.mem_append.1 hc with hc | hc
    · exact ha c hc
    · exact hb c hc

theorem run_call {f : FuncId} (hent : Enterable P f) (ρv : Operand → Value) (o : Oper) (c : Call) (ho : o.op = .call c) {fo : Operand} (hc : c.callee = .value fo) {us : List Value} (hf : ρv fo = .func (.func f) #[] us.toArray) :
    (execOp ρv o).run P w = .ok (.enter f ((c.args.toList.map ρv) ++ us).toArray) w := by
  obtain ⟨fn, h1, h2, h3⟩ := hent
  have h2' : ¬ fn.name = "runtime.NumGoroutine" := by simpa using h2
  have h3' : ¬ fn.body = none := fun hb => by rw [hb] at h3; simp at h3
  have e1 : c.args.map ρv ++ us.toArray = ((c.args.toList.map ρv) ++ us).toArray := by apply Array.ext'; simp
  rw [← e1]
  simp [execOp, ho, resolve, hc, hf, Deferred.ofValue, invoke, callFunc, h1, h2', h3']

theorem evOp_is [Laid] (hE : TabOk P E) (hΓ : EnvOk P E) (hio : E.nio = G.nio) (h : RH G M H cx w) (hm : ∀ n o, Hm n = some o → H n = some o) {wr : Nat → Bool} {ρ : Operand → SV} {ρv : Operand → Value} (hρ : ∀ x, VR cx w (ρ x) (ρv x)) (hc0 : ∀ v, ρv (.const v) = v) {o : Oper} {R : Type} {r : R} {K : SV → Upd → Nat → Option R}
    (hh : evOp E Hm wr nx ρ o K = some r) :
    ∃ sv u n', (∀ {R : Type} (K : SV → Upd → Nat → Option R), evOp E Hm wr nx ρ o K = K sv u n') ∧ nx ≤ n' ∧ ∀ {M' : Nat}, M ≤ M' → n' ≤ M' → (∀ m o, nx ≤ m → m < n' → H m ≠ some o) → (∀ m o, H m = some o → o.old nx n') → (∀ x, (ρ x).old nx n') →
      Goes P ρv o w fun v w' => After G M' (H.upd u) nx n' cx w sv v w' := by
  have pure1 : ∀ {sv v}, (execOp ρv o).run P w = .ok (.value v) w → VR cx w sv v → ∀ {M' : Nat}, M ≤ M' → nx ≤ M' → (∀ m o, nx ≤ m → m < nx → H m ≠ some o) → (∀ m o, H m = some o → o.old nx nx) → (∀ x, (ρ x).old nx nx) →
      Goes P ρv o w fun v w' => After G M' (H.upd []) nx nx cx w sv v w' := fun h1 h2 M' hM _ _ _ _ => .inl ⟨_, w, h1, After.pure h hM h2⟩
  unfold evOp at hh
  cases hop : o.op <;> simp only [hop] at hh
  case move x => exact ⟨ρ x, [], nx, fun K => by simp only [evOp, hop], Nat.le_refl _, pure1 (by simp [execOp, hop]) (hρ x)⟩
  case assign x => exact ⟨ρ x, [], nx, fun K => by simp only [evOp, hop], Nat.le_refl _, pure1 (by simp [execOp, hop]) (hρ x)⟩
  case pick c a b =>
    split at hh
    · rename_i bb hb
      have hv := hρ c
      rw [hb] at hv
      refine ⟨if bb then ρ a else ρ b, [], nx, fun K => by simp only [evOp, hop, hb, N.cond]; cases bb <;> rfl, Nat.le_refl _, pure1 (v := if bb then ρv a else ρv b) ?_ ?_⟩
      · simp only [VR, VL] at hv
        simp [execOp, hop, hv, asBool]
      · cases bb <;> simp [hρ]
    · cases hh
  case alloc t =>
    split at hh
    · rename_i ti hti
      split at hh
      · rename_i ty hty
        refine ⟨.lf (.ptr nx 0), [(nx, some (.box ty.zero))], nx + 1, fun K => by simp only [evOp, hop, hti, hty], Nat.le_succ _, fun {M'} hM hn hnone hold _ => .inl ⟨_, _, ?_, new_box h (by omega) hM (fun o => hnone nx o (Nat.le_refl _) (by omega)) hold t zero_sound (zero_old)⟩⟩
        simp [execOp, hop, run_alloc hE hti hty]
      · cases hh
    · cases hh
  case box t x =>
    split at hh
    · rename_i ti cs hti hcs
      split at hh
      · rename_i hlen
        obtain ⟨vs, hvc, hvs⟩ := cells_sound (hρ x) hcs
        refine ⟨.lf (.ptr nx 0), [(nx, some (.box cs))], nx + 1, fun K => by simp only [evOp, hop, hti, hcs]; rw [if_pos hlen], Nat.le_succ _, fun {M'} hM hn hnone hold ho => .inl ⟨_, _, ?_, new_box h (by omega) hM (fun o => hnone nx o (Nat.le_refl _) (by omega)) hold t hvs (cells_old hcs (ho x))⟩⟩
        simp [execOp, hop, run_box, hvc]
      · cases hh
    · cases hh
  case build t ps =>
    obtain ⟨sv, hK, v, hr, hv⟩ := buildSV_is (P := P) (cx := cx) (w := w) hE (qs := ps.toList.map fun p => (p.1, ρv p.2)) (All2.map (All2.same fun p _ => ⟨rfl, hρ p.2⟩)) hh
    refine ⟨sv, [], nx, fun K => by simp only [evOp, hop]; exact hK _, Nat.le_refl _, pure1 ?_ hv⟩
    have e1 : ps.map (fun x => (x.1, ρv x.2)) = (ps.toList.map fun p => (p.1, ρv p.2)).toArray := by apply Array.ext'; simp
    simp [execOp, hop, e1, hr]
  case buildSlice t n ps =>
    split at hh
    · rename_i hio'
      obtain ⟨sv, u, hK, hrun⟩ := buildSliceSV_is hE hio h hm (ps := ps.toList.map fun p => (p.1, ρv p.2)) (fun j p hj => by
        rw [List.getElem?_map] at hj
        cases hpj : ps.toList[j]? with
        | none => rw [hpj] at hj; simp at hj
        | some q => rw [hpj] at hj; simp at hj; subst hj; simpa using inOrder_spec hio' j q hpj) (by
        rw [List.map_map]
        exact All2.map (All2.same fun p _ => hρ p.2)) hh
      refine ⟨sv, u, nx + 1, fun K => by simp only [evOp, hop]; rw [if_pos hio']; exact hK _, Nat.le_succ _, fun {M'} hM hn hnone hold _ => ?_⟩
      obtain ⟨v, w', hr, hA⟩ := hrun (M' := M') (by omega) hM (fun o => hnone nx o (Nat.le_refl _) (by omega)) hold
      have e1 : ps.map (fun x => (x.1, ρv x.2)) = (ps.toList.map fun p => (p.1, ρv p.2)).toArray := by apply Array.ext'; simp
      exact .inl ⟨v, w', by simp [execOp, hop, e1, hr], hA⟩
    · cases hh
  case load t a =>
    obtain ⟨sv, hK, v, hr, hv⟩ := loadSV_is hE h hm (hρ a) hh
    exact ⟨sv, [], nx, fun K => by simp only [evOp, hop]; exact hK _, Nat.le_refl _, pure1 (by simp [execOp, hop, hr]) hv⟩
  case store t a x =>
    obtain ⟨u, hK, w', cx', hr, h1, h2⟩ := storeSV_is hE hio h hm (nx := nx) (hρ a) (hρ x) hh
    exact ⟨.undef, u, nx, fun K => by simp only [evOp, hop]; exact hK _, Nat.le_refl _, fun {M'} hM _ _ _ _ => .inr (.inl ⟨w', by simp [execOp, hop, hr], cx', rfl, h1.mono hM, h2⟩)⟩
  case nilCheck x =>
    have hx := hρ x
    split at hh
    · rename_i n p hp
      rw [hp] at hx
      obtain ⟨g, e1, e2⟩ := hx
      exact ⟨.lf (.ptr n p), [], nx, fun K => by simp only [evOp, hop, hp], Nat.le_refl _, pure1 (sv := .lf (.ptr n p)) (v := ρv x) (by simp [execOp, hop, e2]) ⟨g, e1, e2⟩⟩
    · rename_i n i p hp
      rw [hp] at hx
      have hx' := hx
      obtain ⟨g, cap, e1, _, _, e2⟩ := hx'
      exact ⟨.lf (.vptr n i p), [], nx, fun K => by simp only [evOp, hop, hp], Nat.le_refl _, pure1 (v := ρv x) (by simp [execOp, hop, e2]) hx⟩
    · rename_i t y p hp
      rw [hp] at hx
      have hx' := hx
      obtain ⟨b, o', vs, e2, _⟩ := hx'
      exact ⟨.lf (.cptr t y p), [], nx, fun K => by simp only [evOp, hop, hp], Nat.le_refl _, pure1 (v := ρv x) (by simp [execOp, hop, e2]) hx⟩
    · rename_i f cs hp
      rw [hp] at hx
      have hx' := hx
      obtain ⟨vs, e2, _⟩ := hx'
      exact ⟨.lf (.fn f cs), [], nx, fun K => by simp only [evOp, hop, hp], Nat.le_refl _, pure1 (v := ρv x) (by simp [execOp, hop, e2]) hx⟩
    · cases hh
  case binOp op t x y _ =>
    split at hh
    · rename_i ti hti
      split at hh
      · rename_i hnil
        have hnil' := hnil
        simp only [Bool.and_eq_true, beq_iff_eq] at hnil'
        obtain ⟨⟨q1, q2⟩, q3⟩ := hnil'
        subst q3
        have hyv : ρv y = .slice none 0 0 := by
          unfold nilOpnd at q2
          split at q2
          · have := hc0 (.slice none 0 0); exact this
          · cases q2
        obtain ⟨sv, hK, v, hr, hv⟩ := nilSV_is (P := P) hE q1 x y (hρ x) hh
        refine ⟨sv, [], nx, fun K => by simp only [evOp, hop, hti]; rw [if_pos hnil]; exact hK _, Nat.le_refl _, pure1 (v := v) ?_ hv⟩
        simp only [execOp, hop, hyv, Sem.run_bind] at hr ⊢
        rw [hr]; simp
      rename_i hnil
      split at hh
      · rename_i heq
        obtain ⟨sv, hK, v, hr, hv⟩ := binAgg_is (P := P) (hE.eq t ti hti heq) x y (hρ x) (hρ y) hh
        refine ⟨sv, [], nx, fun K => by simp only [evOp, hop, hti]; rw [if_neg hnil, if_pos heq]; exact hK _, Nat.le_refl _, pure1 (v := v) ?_ hv⟩
        simp only [execOp, hop, Sem.run_bind] at hr ⊢
        rw [hr]; simp
      · rename_i heq
        split at hh
        · cases hh
        · rename_i hag
          simp only [Bool.not_eq_true] at hag
          obtain ⟨sv, hK, v, hr, hv⟩ := binSV_is hE hti hag x y (hρ x) (hρ y) hh
          refine ⟨sv, [], nx, fun K => by simp only [evOp, hop, hti]; rw [if_neg hnil, if_neg heq, if_neg (by simp [hag])]; exact hK _, Nat.le_refl _, pure1 (v := v) ?_ hv⟩
          simp only [execOp, hop, Sem.run_bind] at hr ⊢
          rw [hr]; simp
    · cases hh
  case unOp op t x =>
    obtain ⟨sv, hK, v, hr, hv⟩ := unSV_is (P := P) (hρ x) hh
    exact ⟨sv, [], nx, fun K => by simp only [evOp, hop]; exact hK _, Nat.le_refl _, pure1 (by simp [execOp, hop, hr]) hv⟩
  case convert s d x =>
    split at hh
    · rename_i si di hsi hdi
      split at hh
      · rename_i hs
        obtain ⟨sv, hK, v, hr, hv⟩ := convS_is hE h hm hsi hs hdi (hρ x) hh
        exact ⟨sv, [], nx, fun K => by simp only [evOp, hop, hsi, hdi]; rw [if_pos hs]; exact hK _, Nat.le_refl _, pure1 (by simp [execOp, hop, hr]) hv⟩
      · cases hh
    · cases hh
  case makeFunc fn first caps =>
    cases fn <;> simp only [] at hh <;> try (cases hh; done)
    rename_i f
    split at hh
    · rename_i hfirst
      split at hh
      · rename_i cs hcs
        have hc := capsIn_sound hcs (args_all hρ caps.toList)
        have hf0 : first = #[] := Array.eq_empty_of_size_eq_zero hfirst
        refine ⟨.lf (.fn f cs), [], nx, fun K => by simp only [evOp, hop]; rw [if_pos hfirst, hcs], Nat.le_refl _, pure1 (sv := .lf (.fn f cs)) (v := .func (.func f) #[] (caps.toList.map ρv).toArray) ?_ ⟨_, rfl, hc⟩⟩
        have e1 : caps.map ρv = (caps.toList.map ρv).toArray := by apply Array.ext'; simp
        simp [execOp, hop, Instr.makeFunc, hf0, e1]
      · cases hh
    · cases hh
  case makeSlice t l c =>
    split at hh
    · rename_i hs
      have := sameOpnd_eq hs
      subst this
      obtain ⟨sv, u, hK, hrun⟩ := makeSV_is (G := G) (H := H) (M := M) hE h (hρ l) hh
      refine ⟨sv, u, nx + 1, fun K => by simp only [evOp, hop]; rw [if_pos hs]; exact hK _, Nat.le_succ _, fun {M'} hM hn hnone hold _ => ?_⟩
      obtain ⟨v, w', hr, hA⟩ := hrun (M' := M') (by omega) hM (fun o => hnone nx o (Nat.le_refl _) (by omega)) hold
      exact .inl ⟨v, w', by simp [execOp, hop, hr], hA⟩
    · cases hh
  case slice t x lo hi mx =>
    split at hh
    · rename_i ti hti
      split at hh
      · rename_i hsome
        split at hh
        · rename_i hmx
          split at hh
          · rename_i l h' hl hh'
            have hlo := bound_opt (lv := lo.map ρv) hl (by cases lo with | none => trivial | some q => exact hρ q)
            have hhi := bound_opt (lv := hi.map ρv) hh' (by cases hi with | none => trivial | some q => exact hρ q)
            split at hh
            · rename_i s hs
              split at hh
              · rename_i hty
                have hx := hρ x
                rw [hs] at hx
                simp only [VR, VL] at hx
                obtain ⟨sv, hK, v, hr, hv⟩ := sliceStr_is (cx := cx) hE hti hty.2 hty.1 hlo hhi hh
                refine ⟨sv, [], nx, fun K => by simp only [evOp, hop, hti, hl, hh', hs]; rw [if_pos hsome, if_pos hty]; exact hK _, Nat.le_refl _, pure1 (v := v) ?_ hv⟩
                simp [execOp, hop, hx, hr]
              · cases hh
            · rename_i hns
              obtain ⟨sv, hK, v, hr, hv⟩ := sliceSV_is hE h hm (hρ x) hlo hhi hh
              refine ⟨sv, [], nx, fun {R} K => ?_, Nat.le_refl _, pure1 (v := v) (by simp [execOp, hop, hr]) hv⟩
              simp only [evOp, hop, hti, hl, hh']
              rw [if_pos hsome]
              exact hK _
          · cases hh
        · rename_i m
          split at hh
          · rename_i el hel
            obtain ⟨e1, e2, e3⟩ := el
            obtain ⟨sv, hK, v, hr, hv⟩ := sliceNone_is hE h hm hel (lv := lo.map ρv) (hv := hi.map ρv) (mv := some (ρv m)) (hρ x) (by cases lo with | none => trivial | some q => exact hρ q) (by cases hi with | none => trivial | some q => exact hρ q) (hρ m) hh
            refine ⟨sv, [], nx, fun K => by simp only [evOp, hop, hti, hel]; rw [if_pos hsome]; exact hK _, Nat.le_refl _, pure1 (v := v) (by simp [execOp, hop, hr]) hv⟩
          · cases hh
      · cases hh
    · cases hh
  case fieldAddr t x f =>
    obtain ⟨sv, hK, v, hr, hv⟩ := fieldAddrSV_is hE (hρ x) hh
    exact ⟨sv, [], nx, fun K => by simp only [evOp, hop]; exact hK _, Nat.le_refl _, pure1 (by simp [execOp, hop, hr]) hv⟩
  case field t x f =>
    obtain ⟨sv, hK, v, hr, hv⟩ := fieldSV_is hE (hρ x) hh
    exact ⟨sv, [], nx, fun K => by simp only [evOp, hop]; exact hK _, Nat.le_refl _, pure1 (by simp [execOp, hop, hr]) hv⟩
  case indexAddr t x i =>
    split at hh
    · rename_i ti hti
      split at hh
      · rename_i hs
        obtain ⟨sv, hK, v, hr, hv⟩ := indexAddrSV_is hE h hm (hρ x) (hρ i) hh
        exact ⟨sv, [], nx, fun K => by simp only [evOp, hop, hti]; rw [if_pos hs]; exact hK _, Nat.le_refl _, pure1 (by simp [execOp, hop, hr]) hv⟩
      · cases hh
    · cases hh
  case index t x i =>
    split at hh
    · rename_i ti hti
      split at hh
      · rename_i hs
        obtain ⟨sv, hK, v, hr, hv⟩ := indexSV_is hE hti hs.2 hs.1 (hρ x) (hρ i) hh
        exact ⟨sv, [], nx, fun K => by simp only [evOp, hop, hti]; rw [if_pos hs]; exact hK _, Nat.le_refl _, pure1 (by simp [execOp, hop, hr]) hv⟩
      · cases hh
    · cases hh
  case extract t i =>
    have hx := hρ t
    split at hh
    · rename_i vs hvs
      rw [hvs] at hx
      obtain ⟨us, e1, hus⟩ := hx
      split at hh
      · rename_i a cs hi
        have hlt := (List.getElem?_eq_some_iff.1 hi).1
        obtain ⟨u, hui⟩ : ∃ u, us[i]? = some u := ⟨_, List.getElem?_eq_getElem (by rw [← hus.len]; exact hlt)⟩
        have hvp := hus.get hi hui
        refine ⟨pack a cs, [], nx, fun K => by simp only [evOp, hop, hvs, hi], Nat.le_refl _, pure1 (v := u) ?_ (VP.pack hvp)⟩
        simp [execOp, hop, Instr.extract, e1, hui]
      · cases hh
    · cases hh
  case call c =>
    unfold evCall at hh
    split at hh
    · rename_i fo hcal
      split at hh
      · rename_i f cs hf
        have hfv := hρ fo
        rw [hf] at hfv
        obtain ⟨us, hfe, hus⟩ := hfv
        obtain ⟨sv, u, n', hK, hn, hent, hC⟩ := callSV_is (nx := nx) hΓ hio h hm ((args_all hρ c.args.toList).append (capLV_sound hus)) hh
        refine ⟨sv, u, n', fun K => by simp only [evOp, hop, evCall, hcal, hf]; exact hK _, hn, fun {M'} hM hn' hnone hold _ => .inr (.inr ⟨f, _, w, run_call hent ρv o c hop hcal hfe, ?_⟩)⟩
        exact hC hM hn' hnone hold
      · cases hh
    · rename_i hcal
      split at hh
      · rename_i x t ha ht
        split at hh
        · rename_i ti hti
          split at hh
          · rename_i hc
            simp only [Bool.and_eq_true, Bool.not_eq_true', Option.isSome_iff_exists] at hc
            obtain ⟨⟨⟨ty, hty⟩, hag⟩, hlo⟩ := hc
            have hsl : (¬ ∃ s, ρ x = .lf (.str s)) → ∃ el, P.underlying t = some (.slice el) := fun hns => by
              obtain ⟨d, hd, hok⟩ := hE.desc hti
              have hel : ti.elem.isSome := by
                unfold lenOk at hlo
                split at hlo
                · rename_i s hs; exact absurd ⟨s, hs⟩ hns
                · exact hlo
              cases d <;> simp [descOk, hag] at hok <;> try (simp [hok] at hel; done)
              exact ⟨_, hd⟩
            obtain ⟨n, hK, hr⟩ := lenSV_is o.type hE h hm hti (hρ x) (fun ⟨s, hs⟩ => by rw [hs] at hlo; simpa [lenOk] using hlo) ⟨ty, hty⟩ hsl hag hh
            refine ⟨.lf (.int .i64 n), [], nx, fun K => ?_, Nat.le_refl _, pure1 (sv := .lf (.int .i64 n)) (v := .int .i64 n) ?_ rfl⟩
            · simp only [evOp, hop, evCall, hcal, ha, ht, hti]
              rw [if_pos (by simp [hty, hag, hlo])]
              exact hK _
            · have e1 : c.args.map ρv = #[ρv x] := by apply Array.ext'; simp [ha]
              have e2 : c.argTypes = #[t] := by apply Array.ext'; simp [ht]
              simp [execOp, hop, resolve, hcal, invoke, builtin, e1, e2, hr]
          · cases hh
        · cases hh
      · cases hh
    · rename_i hcal
      split at hh
      · rename_i s x t t' ha ht
        split at hh
        · rename_i htt
          subst htt
          obtain ⟨sv, u, hK, hrun⟩ := appendSV_is (ty := o.type) hE hio h hm (hρ s) (hρ x) hh
          refine ⟨sv, u, nx + 1, fun K => by simp only [evOp, hop, evCall, hcal, ha, ht, if_true]; exact hK _, Nat.le_succ _, fun {M'} hM hn hnone hold _ => ?_⟩
          obtain ⟨v, w', hr, hA⟩ := hrun (M' := M') (by omega) hM (fun o => hnone nx o (Nat.le_refl _) (by omega)) hold
          have e1 : c.args.map ρv = #[ρv s, ρv x] := by apply Array.ext'; simp [ha]
          have e2 : c.argTypes = #[t, t] := by apply Array.ext'; simp [ht]
          exact .inl ⟨v, w', by simp [execOp, hop, resolve, hcal, invoke, builtin, e1, e2, hr], hA⟩
        · cases hh
      · cases hh
    · rename_i hcal
      split at hh
      · rename_i d s t t' ha ht
        split at hh
        · rename_i htt
          subst htt
          obtain ⟨sv, u, hK, v, w', cx', hr, g1, g2, g3⟩ := copySV_is (nx := nx) (ty := o.type) hE h hm (hρ d) (hρ s) hh
          refine ⟨sv, u, nx, fun K => by simp only [evOp, hop, evCall, hcal, ha, ht, if_true]; exact hK _, Nat.le_refl _, fun {M'} hM _ _ _ _ => .inl ⟨v, w', ?_, cx', g1, g2.mono hM, g3⟩⟩
          have e1 : c.args.map ρv = #[ρv d, ρv s] := by apply Array.ext'; simp [ha]
          have e2 : c.argTypes = #[t, t] := by apply Array.ext'; simp [ht]
          simp [execOp, hop, resolve, hcal, invoke, builtin, e1, e2, hr]
        · cases hh
      · cases hh
    · rename_i hcal
      split at hh
      · rename_i x xs hl
        split at hh
        · rename_i y hy
          have hlv := leaves_is hl (args_all hρ c.args.toList)
          cases hav : c.args.toList.map ρv with
          | nil => rw [hav] at hlv; exact hlv.elim
          | cons a as =>
            rw [hav] at hlv
            obtain ⟨u, hr, hu⟩ := minSV_is (P := P) hy hlv.1 hlv.2
            refine ⟨.lf y, [], nx, fun K => by simp only [evOp, hop, evCall, hcal, hl, hy], Nat.le_refl _, pure1 (sv := .lf y) (v := u) ?_ hu⟩
            have e1 : c.args.map ρv = (a :: as).toArray := by apply Array.ext'; simp [hav]
            simp [execOp, hop, resolve, hcal, invoke, builtin, e1, Builtin.min_, hr]
        · cases hh
      · cases hh
    · rename_i hcal
      split at hh
      · rename_i x xs hl
        split at hh
        · rename_i y hy
          have hlv := leaves_is hl (args_all hρ c.args.toList)
          cases hav : c.args.toList.map ρv with
          | nil => rw [hav] at hlv; exact hlv.elim
          | cons a as =>
            rw [hav] at hlv
            obtain ⟨u, hr, hu⟩ := maxSV_is (P := P) hy hlv.1 hlv.2
            refine ⟨.lf y, [], nx, fun K => by simp only [evOp, hop, evCall, hcal, hl, hy], Nat.le_refl _, pure1 (sv := .lf y) (v := u) ?_ hu⟩
            have e1 : c.args.map ρv = (a :: as).toArray := by apply Array.ext'; simp [hav]
            simp [execOp, hop, resolve, hcal, invoke, builtin, e1, Builtin.max_, hr]
        · cases hh
      · cases hh
    · cases hh
  all_goals cases hh
end
end Go.Sh

namespace Go.Sh
open Go

/-! ## Code -/
section
variable {R : Type}

def dstOk (nt : Nat) : Option Tmp → Bool
  | some d => Nat.blt d nt
  | none => true

/-- the names in a result: old ones or its own new ones; what is written may be written -/
def chk (nt : Nat) (s : St) (d : Option Tmp) (sv : SV) (u : Upd) (n' : Nat) : Bool :=
  dstOk nt d && Nat.ble s.nx n' && sv.names.all (fun m => Nat.blt m n') && u.all (fun p => s.wr p.1 && Nat.blt p.1 n' && (match p.2 with | some o => o.names.all (fun m => Nat.blt m n') | none => true))

def St.after (s : St) (d : Option Tmp) (sv : SV) (u : Upd) (n' : Nat) : St := { tmps := putT s.tmps d sv, H := s.H.upd u, wr := s.wr, nx := n' }
def St.told (s : St) (g : Tmp) (b : Bool) : St := { s with tmps := fun t => if t = g then .lf (.bool b) else s.tmps t }

/-! values brought to their outer forms, so that nothing is worked out twice -/
def forceCaps : List Cap → (List Cap → Option R) → Option R
  | [], K => K []
  | .ptr n :: r, K => forceCaps r fun r => K (.ptr n :: r)
  | .cptr t x :: r, K => forceCaps r fun r => K (.cptr t x :: r)

def forceLV : LV → (LV → Option R) → Option R
  | .int k n, K => K (.int k n)
  | .bool b, K => K (.bool b)
  | .str s, K => K (.str s)
  | .nil, K => K .nil
  | .sl E e xs, K => K (.sl E e xs)
  | .ref n, K => K (.ref n)
  | .sub n lo hi, K => K (.sub n lo hi)
  | .dsl n ver i off E e xs, K => K (.dsl n ver i off E e xs)
  | .ptr n off, K => K (.ptr n off)
  | .vptr n i off, K => K (.vptr n i off)
  | .cptr t x off, K => K (.cptr t x off)
  | .fn f cs, K => forceCaps cs fun cs => K (.fn f cs)
  | .isnil e, K => K (.isnil e)

def forceL : List LV → (List LV → Option R) → Option R
  | [], K => K []
  | c :: r, K => forceLV c fun c => forceL r fun r => K (c :: r)

def forceT : List (Bool × List LV) → (List (Bool × List LV) → Option R) → Option R
  | [], K => K []
  | (b, cs) :: r, K => forceL cs fun cs => forceT r fun r => K ((b, cs) :: r)

def forceSV : SV → (SV → Option R) → Option R
  | .top, K => K .top
  | .undef, K => K .undef
  | .lf v, K => forceLV v fun v => K (.lf v)
  | .agg cs, K => forceL cs fun cs => K (.agg cs)
  | .tup vs, K => forceT vs fun vs => K (.tup vs)

def forceOb : Ob → (Ob → Option R) → Option R
  | .box cs, K => forceL cs fun cs => K (.box cs)
  | .vec E e d ver xs, K => K (.vec E e d ver xs)
  | .fro E e xs, K => K (.fro E e xs)

def forceU : Upd → (Upd → Option R) → Option R
  | [], K => K []
  | (n, none) :: r, K => forceU r fun r => K ((n, none) :: r)
  | (n, some o) :: r, K => forceOb o fun o => forceU r fun r => K ((n, some o) :: r)

def forceNat : Nat → (Nat → Option R) → Option R
  | 0, K => K 0
  | n + 1, K => K (n + 1)
def forceN : List Nat → (List Nat → Option R) → Option R
  | [], K => K []
  | n :: r, K => forceNat n fun n => forceN r fun r => K (n :: r)
theorem forceNat_eq (n : Nat) (K : Nat → Option R) : forceNat n K = K n := by cases n <;> rfl
theorem forceN_eq : ∀ (l : List Nat) (K : List Nat → Option R), forceN l K = K l
  | [], _ => rfl
  | n :: r, K => by cases n <;> simp [forceN, forceNat, forceN_eq r]

theorem forceCaps_eq : ∀ (cs : List Cap) (K : List Cap → Option R), forceCaps cs K = K cs
  | [], _ => rfl
  | .ptr _ :: r, K => by rw [forceCaps, forceCaps_eq r]
  | .cptr _ _ :: r, K => by rw [forceCaps, forceCaps_eq r]

theorem forceLV_eq [Laid] (v : LV) (K : LV → Option R) : forceLV v K = K v := by cases v <;> simp [forceLV, forceCaps_eq]
theorem forceL_eq [Laid] : ∀ (cs : List LV) (K : List LV → Option R), forceL cs K = K cs
  | [], _ => rfl
  | c :: r, K => by rw [forceL, forceLV_eq, forceL_eq r]
theorem forceT_eq [Laid] : ∀ (cs : List (Bool × List LV)) (K : List (Bool × List LV) → Option R), forceT cs K = K cs
  | [], _ => rfl
  | (b, cs) :: r, K => by rw [forceT, forceL_eq, forceT_eq r]
theorem forceSV_eq [Laid] (v : SV) (K : SV → Option R) : forceSV v K = K v := by cases v <;> simp [forceSV, forceLV_eq, forceL_eq, forceT_eq]
theorem forceOb_eq [Laid] (v : Ob) (K : Ob → Option R) : forceOb v K = K v := by cases v <;> simp [forceOb, forceL_eq]
theorem forceU_eq [Laid] : ∀ (u : Upd) (K : Upd → Option R), forceU u K = K u
  | [], _ => rfl
  | (n, none) :: r, K => by rw [forceU, forceU_eq r]
  | (n, some o) :: r, K => by rw [forceU, forceOb_eq, forceU_eq r]

/-- does a guard let the operation run? -/
def guarded (ops : Array Oper) (s : St) (o : Oper) (run skip : St → Option R) : Option R :=
  match o.guard with
  | none => run s
  | some (j, want) => match (ops[j]?).bind (·.dst) with
    | none => none
    | some g => match s.tmps g with
      | .lf (.bool b) => N.cond b (if want then run (s.told g true) else skip (s.told g true)) (if want then skip (s.told g false) else run (s.told g false))
      | .undef => skip s
      | _ => none

/-- the operations of a region, in the order of the text -/
def evOps (E : Env) (nt : Nat) (ops : Array Oper) : List Oper → St → (St → Option R) → Option R
  | [], s, K => K s
  | o :: os, s, K => guarded ops s o
      (fun s => evOp E s.H s.wr s.nx (opSV s.tmps) o fun x u n => forceSV x fun x => forceU u fun u => if chk nt s o.dst x u n then evOps E nt ops os (s.after o.dst x u n) K else none)
      (fun s => if dstOk nt o.dst then evOps E nt ops os (s.after o.dst .undef [] s.nx) K else none)

/-- an operation of a region whose order is drawn, as it went in the order of the text -/
structure Ent where
  dst : Option Tmp
  looks : List Tmp
  touch : List Nat
  cm : Nat
  sv : SV
  u : Upd
  nx : Nat
  n' : Nat

def bits (m : Nat) : List Nat := (List.range (m.log2 + 1)).filter fun i => m.testBit i
theorem mem_bits {m i : Nat} : i ∈ bits m ↔ m.testBit i = true := by
  simp only [bits, List.mem_filter, List.mem_range]
  refine ⟨fun h => h.2, fun h => ⟨?_, h⟩⟩
  have hm : m ≠ 0 := by intro h0; subst h0; simp at h
  exact Nat.lt_succ_of_le ((Nat.le_log2 hm).2 (Nat.ge_two_pow_of_testBit h))
/-- what goes ahead of it -/
def Ent.clos (e : Ent) : List Nat := bits e.cm

def Upd.allNames (u : Upd) : List Nat := u.flatMap fun p => p.1 :: (match p.2 with | some o => o.names | none => [])

def apart (a b : List Nat) : Bool := a.all fun m => !b.contains m

/-- the earlier of two that are not ordered, the later -/
def cf (i j : Ent) : Bool :=
  (match j.dst with | some d => !i.looks.contains d && i.dst != some d | none => true) &&
  (match i.dst with | some d => !j.looks.contains d | none => true) &&
  apart (j.u.map (·.1)) i.touch && apart (i.u.map (·.1)) j.touch && apart (i.u.map (·.1)) (j.u.map (·.1)) &&
  (j.sv.names ++ j.u.allNames).all fun m => !(Nat.ble i.nx m && Nat.blt m i.n')

def fits (j : Ent) : Nat → List Ent → Bool
  | _, [] => true
  | k, i :: r => (j.cm.testBit k || cf i j) && fits j (k + 1) r

/-- the rows and boxes that an operation may look at -/
def touches (H : Heap) (ns : List Nat) : List Nat := ns ++ ns.flatMap fun n => match H n with
  | some (.box cs) => cs.flatMap LV.names
  | _ => []

def closure (done : List Ent) : List Edge → Option Nat
  | [] => some 0
  | e :: r => match closure done r with
    | none => none
    | some l => if Region.binds .any e then (match done[e.on]? with
        | some d => some ((2 ^ e.on ||| d.cm) ||| l)
        | none => none) else some l

/-- what an operation may read in memory -/
def touchOf : Op → List Nat → List Nat
  | .move _, _ => []
  | .assign _, _ => []
  | .nilCheck _, _ => []
  | .fieldAddr _ _ _, _ => []
  | .field _ _ _, _ => []
  | .pick _ _ _, _ => []
  | .extract _ _, _ => []
  | .unOp _ _ _, _ => []
  | .binOp _ _ _ _ _, _ => []
  | _, l => l

def maskT (ls : List Tmp) (tm : Nat → SV) : Nat → SV := fun t => if ls.contains t then tm t else .top
def maskH (ns : List Nat) (H : Heap) : Heap := fun n => if ns.contains n then H n else none

def evDraw (E : Env) (nt : Nat) (ops : Array Oper) : List Oper → St → List Ent → (St → Option R) → Option R
  | [], s, _, K => K s
  | o :: os, s, done, K => match closure done o.after.toList with
    | none => none
    | some clos => forceNat clos fun clos => forceN (o.looksAt ops) fun looks =>
      guarded ops s o
        (fun s => forceN (touchOf o.op (touches s.H (looks.flatMap fun t => (s.tmps t).names))) fun touch =>
          evOp E (maskH touch s.H) s.wr s.nx (opSV (maskT looks s.tmps)) o fun x u n => forceSV x fun x => forceU u fun u =>
            if chk nt s o.dst x u n && fits ⟨o.dst, looks, touch, clos, x, u, s.nx, n⟩ 0 done then evDraw E nt ops os (s.after o.dst x u n) (done ++ [⟨o.dst, looks, touch, clos, x, u, s.nx, n⟩]) K else none)
        (fun s =>
          if dstOk nt o.dst && fits ⟨o.dst, looks, [], clos, .undef, [], s.nx, s.nx⟩ 0 done then evDraw E nt ops os (s.after o.dst .undef [] s.nx) (done ++ [⟨o.dst, looks, [], clos, .undef, [], s.nx, s.nx⟩]) K else none)
end

inductive Ex where
  | normal | ret | exit (id : Nat)

/-! ### Loops -/
def loopN {S R : Type} (step : S → Option (S ⊕ R)) : Nat → S → Option R
  | 0, _ => none
  | n + 1, s => match step s with
    | none => none
    | some (.inl s) => loopN step n s
    | some (.inr r) => some r

open Classical in
noncomputable def loopF {S R : Type} (step : S → Option (S ⊕ R)) (s : S) : Option R :=
  if h : ∃ n r, loopN step n s = some r then some (Classical.choose (Classical.choose_spec h)) else none

/-- a leaf of a loop's state; its row, if it has one of its own -/
def LT.of (H : Heap) (wr : Nat → Bool) : (l : LT) → LV → Option (l.den × List (Option Nat))
  | .int k, .int k' x => if k = k' then some (x, []) else none
  | .bool, .bool x => some (x, [])
  | .str, .str x => some (x, [])
  | .ro E e, v => match v with
    | .nil => some ([], [])
    | .sl E' e' xs => match asRows E e E' e' xs with
      | some xs => some (xs, [])
      | none => none
    | .ref n => match H n with
      | some (.fro E' e' xs) => match asRows E e E' e' xs with
        | some xs => some (xs, [])
        | none => none
      | _ => none
    | _ => none
  | .own E e d, v => match v with
    | .nil => some ([], [none])
    | .ref n => match H n with
      | some (.vec E' e' d' _ xs) => if wr n && (d == d' || e.flat) then (match asRows E e E' e' xs with
        | some xs => some (xs, [some n])
        | none => none) else none
      | _ => none
    | .sub n lo hi => match H n with
      | some (.vec E' e' _ _ xs) => if wr n && e.flat && decide (lo = 0) then (match asRows E e E' e' xs with
        | some xs => some (N.cut xs lo hi, [some n])
        | none => none) else none
      | _ => none
    | _ => none
  | _, _ => none

def LT.all (H : Heap) (wr : Nat → Bool) : (ls : List LT) → List LV → Option (Tup (ls.map LT.den) × List (Option Nat))
  | [], [] => some ((), [])
  | l :: ls, v :: vs => match l.of H wr v with
    | some (x, ns) => match LT.all H wr ls vs with
      | some (r, ns') => some (Tup.cons x r, ns ++ ns')
      | none => none
    | none => none
  | _, _ => none

/-- the state of a loop out of temporaries, rows and boxes -/
def LI.of (E : Env) (s : St) : (l : LI) → Option (l.den × List (Option Nat))
  | .slot t l => match s.tmps t with
    | .lf v => l.of s.H (tk E s.wr) v
    | _ => none
  | .box t ls => match s.tmps t with
    | .lf (.ptr n 0) => match s.H n with
      | some (.box cs) => LT.all s.H (tk E s.wr) ls cs
      | _ => none
    | _ => none
  | .vec t T e d => match s.tmps t with
    | .lf (.ref n) => match s.H n with
      | some (.vec E' e' d' _ xs) => if d == d' then (match asRows T e E' e' xs with
        | some xs => some (xs, [])
        | none => none) else none
      | _ => none
    | _ => none

def LS.of (E : Env) (s : St) : (ls : List LI) → Option (LS ls × List (Option Nat))
  | [] => some ((), [])
  | l :: ls => match l.of E s with
    | some (x, ns) => match LS.of E s ls with
      | some (r, ns') => some (Tup.cons x r, ns ++ ns')
      | none => none
    | none => none

/-- a leaf at the loop's head; its row -/
def LT.to (nx : Nat) : (l : LT) → l.den → LV × List Ob
  | .int k, x => (.int k x, [])
  | .bool, x => (.bool x, [])
  | .str, x => (.str x, [])
  | .ro E e, x => (.sl E e x, [])
  | .own E e d, x => (.ref nx, [.vec E e d 0 x])

def LT.toAll (nx : Nat) : (ls : List LT) → Tup (ls.map LT.den) → List LV × List Ob
  | [], _ => ([], [])
  | l :: ls, x =>
    let p := l.to nx (Tup.hd x)
    let q := LT.toAll (nx + p.2.length) ls (Tup.tl x)
    (p.1 :: q.1, p.2 ++ q.2)

/-- what stands at the head in place of what was there: temporaries, rows and boxes that are written in place, own rows -/
def LI.to (s : St) (nx : Nat) : (l : LI) → l.den → List (Tmp × SV) × Upd × List Ob
  | .slot t l, x => let p := l.to nx x; ([(t, .lf p.1)], [], p.2)
  | .box t ls, x => let p := LT.toAll nx ls x; match s.tmps t with
    | .lf (.ptr b _) => ([(t, .lf (.ptr b 0))], [(b, some (.box p.1))], p.2)
    | _ => ([], [], p.2)
  | .vec t E e d, x => match s.tmps t with
    | .lf (.ref b) => ([(t, .lf (.ref b))], [(b, some (match s.H b with
        | some (.vec _ _ _ ver _) => .vec E e d (ver + 1) x
        | _ => .vec E e d 0 x))], [])
    | _ => ([], [], [])

def LS.to (s : St) (nx : Nat) : (ls : List LI) → LS ls → List (Tmp × SV) × Upd × List Ob
  | [], _ => ([], [], [])
  | l :: ls, x =>
    let p := l.to s nx (Tup.hd x)
    let q := LS.to s (nx + p.2.2.length) ls (Tup.tl x)
    (p.1 ++ q.1, p.2.1 ++ q.2.1, p.2.2 ++ q.2.2)

/-- the temporaries that code writes -/
def writes : Code → List Tmp
  | .region _ ops _ => ops.toList.filterMap (·.dst)
  | .seq a b => writes a ++ writes b
  | .cond _ a b => writes a ++ writes b
  | .block _ c => writes c
  | .loop c => writes c
  | .scope c => writes c
  | _ => []

def names? (l : List (Option Nat)) : List Nat := l.filterMap id

def look (t : Tmp) : List (Tmp × SV) → Option SV
  | [] => none
  | (t', v) :: r => if t = t' then some v else look t r

def inPlace (s : St) : List LI → List Nat
  | [] => []
  | .slot _ _ :: r => inPlace s r
  | .box t _ :: r => (match s.tmps t with | .lf (.ptr a 0) => [a] | _ => []) ++ inPlace s r
  | .vec t _ _ _ :: r => (match s.tmps t with | .lf (.ref a) => [a] | _ => []) ++ inPlace s r

def slotsIn (W : List Tmp) : List LI → Bool
  | [] => true
  | .slot t _ :: r => W.contains t && slotsIn W r
  | .box _ _ :: r => slotsIn W r
  | .vec _ _ _ _ :: r => slotsIn W r

/-- the state at a loop's head (or behind a cut): what is in the signature as told, what else the code writes unknown; rows that are given up are gone -/
def headSt (s : St) (W : List Tmp) (gone : List Nat) (ls : List LI) (x : LS ls) : St :=
  let p := LS.to s s.nx ls x
  { tmps := fun t => match look t p.1 with | some v => v | none => if W.contains t then .top else s.tmps t
    H := Heap.upd (fun m => if gone.contains m then none else if Nat.blt m s.nx then s.H m else none) (p.2.1 ++ numbered s.nx p.2.2)
    wr := fun m => ((inPlace s ls).contains m && s.wr m) || Nat.ble s.nx m
    nx := s.nx + p.2.2.length }

/-- the state of the loop at the end of a round: temporaries that point into place still do -/
def stands (s s' : St) : List LI → Bool
  | [] => true
  | .slot _ _ :: r => stands s s' r
  | .box t _ :: r => (match s.tmps t, s'.tmps t with | .lf (.ptr a 0), .lf (.ptr b 0) => a == b | _, _ => false) && stands s s' r
  | .vec t _ _ _ :: r => (match s.tmps t, s'.tmps t with | .lf (.ref a), .lf (.ref b) => a == b | _, _ => false) && stands s s' r

def fin (E : Env) (s s' : St) (ls : List LI) : Option (LS ls) :=
  match LS.of E s' ls with
  | some (x, ns) => if distinct (names? ns) && stands s s' ls && (names? ns).all (fun n => Nat.ble s.nx n) then some x else none
  | none => none

/-- the condition at a loop's start -/
def start (E : Env) (s : St) (W : List Tmp) (ls : List LI) : Option (LS ls × List Nat) :=
  match LS.of E s ls with
  | some (x, ns) => if distinct (names? ns) && slotsIn W ls && stands s s ls && distinct (inPlace s ls) && (names? ns).all (fun n => !(inPlace s ls).contains n) && (inPlace s ls).all s.wr && (names? ns).all s.wr then some (x, names? ns) else none
  | none => none

def cutAt (E : Env) : Operand → Option (List LI)
  | .tmp t => E.cut t
  | _ => none

/-- what a branch before a cut ends with -/
def cutK (E : Env) (s : St) (ls : List LI) {R : Type} (K : Ex → St → Option R) (e : Ex) (s' : St) : Option (LS ls ⊕ R) := match e with
  | .normal => match fin E s s' ls with
    | some x => some (.inl x)
    | none => none
  | e => (K e { s' with wr := s.wr }).map .inr

noncomputable def evCode (E : Env) (nt : Nat) : Code → {R : Type} → (bid : Nat) → St → (Ex → St → Option R) → Option R
  | .skip, _, _, s, K => K .normal s
  | .label _, _, _, s, K => K .normal s
  | .region _ ops draw, _, _, s, K => if draw then evDraw E nt ops ops.toList s [] (K .normal) else evOps E nt ops ops.toList s (K .normal)
  | .seq a b, _, bid, s, K => evCode E nt a bid s fun e s => match e with
    | .normal => evCode E nt b bid s K
    | e => K e s
  | .cond c a b, R, bid, s, K => match opSV s.tmps c with
    | .lf (.bool t) => match cutAt E c with
      | none => N.cond t (evCode E nt a bid s K) (evCode E nt b bid s K)
      | some ls => match start E s (writes (.cond c a b)) ls with
        | some (x, g) => N.join (N.cond t
            (evCode E nt a (R := LS ls ⊕ R) bid (headSt s (writes (.cond c a b)) g ls x) (cutK E s ls K))
            (evCode E nt b (R := LS ls ⊕ R) bid (headSt s (writes (.cond c a b)) g ls x) (cutK E s ls K)))
            fun x => K .normal { headSt s (writes (.cond c a b)) g ls x with wr := s.wr }
        | none => none
    | .lf (.isnil e) => N.nilc e (evCode E nt a bid s K) (evCode E nt b bid s K)
    | _ => none
  | .block id c, R, _, s, K => match E.cutb id with
    | none => evCode E nt c id s fun e s => match e with
      | .exit j => if j = id then K .normal s else K (.exit j) s
      | e => K e s
    | some ls => match start E s (writes (.block id c)) ls with
      | some (x, g) => N.join
          (evCode E nt c (R := LS ls ⊕ R) id (headSt s (writes (.block id c)) g ls x) fun e s' => match e with
            | .exit j => if j = id then cutK E s ls K .normal s' else cutK E s ls K (.exit j) s'
            | e => cutK E s ls K e s')
          fun x => K .normal { headSt s (writes (.block id c)) g ls x with wr := s.wr }
      | none => none
  | .loop c, R, bid, s, K => match E.loop bid with
    | none => none
    | some ls => match start E s (writes c) ls with
      | some (x, g) => loopF (fun x => evCode E nt c (R := LS ls ⊕ R) bid (headSt s (writes c) g ls x) fun e s' => match e with
            | .normal => match fin E s s' ls with
              | some x => some (.inl x)
              | none => none
            | e => (K e { s' with wr := s.wr }).map .inr) x
      | none => none
  | .exit id, _, _, s, K => K (.exit id) s
  | .ret, _, _, s, K => K .ret s
  | _, _, _, _, _ => none
end Go.Sh

