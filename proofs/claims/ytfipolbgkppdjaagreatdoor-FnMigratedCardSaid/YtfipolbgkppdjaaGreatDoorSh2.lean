/- The evaluator and its soundness, part 2: a function of the program does what its native form tells. -/
import Derived.Test.YtfipolbgkppdjaaGreatDoorSh1
set_option linter.unusedVariables false
set_option linter.unusedSimpArgs false
namespace Go.Sh
open Go Go.RowKit

section
variable {P : Program} {E : Env} {cx : Cx} {w : World} {R : Type} {r : R} {G : Base} {N0 : Nat} {H Hm : Heap}

theorem TabOk.elem (hE : TabOk P E) {t el : TypeId} {ei : TI} {e : Ty} (h : elemOf E t = some (el, ei, e)) : P.underlying t = some (.slice el) ∧ e.size = ei.size ∧ ∀ w, (sizeOf el).run P w = .ok e.size w := by
  obtain ⟨h1, h2, h3, _⟩ := hE.slice h
  obtain ⟨f, _, _, _, _, h4⟩ := hE.info h2
  have := (h4 e h3).1
  exact ⟨h1, this, fun w => by rw [hE.size h2, this]⟩

theorem Rd.at [Laid] {S : Nat → Prop} {Ei : TypeId} {e : Ty} {v : Value} {xs : List e.den} (h : Rd w S (.slice Ei e) [v] xs) {i : Int} (h0 : 0 ≤ i) (h1 : i < (xs.length : Int)) :
    ∃ b o cap ci, v = .slice (some ⟨b, o, none⟩) xs.length cap ∧ S b ∧ (∀ j u, ci[j]? = some u → w.cell? ⟨b, o + i.toNat * e.size + j, none⟩ = some u) ∧ Rd w S e ci (N.rd xs i e.dflt) := by
  obtain ⟨A, cap, e1, _, h⟩ := h
  simp at e1; subst e1
  obtain ⟨b, o, ci, e2, hb, hc, hr⟩ := h i.toNat (by omega)
  rw [rd_getD xs i _ h0 h1]
  exact ⟨b, o, cap, ci, by rw [e2], hb, hc, hr⟩

theorem Row1.addr {α : Type} {w : World} {T : TypeId} {size : Nat} {El : List Value → α → List Nat → Prop} {v : Value} {xs : List α} {foot : List Nat} (h : Row1 w T size El v xs foot) (hx : 0 < xs.length) :
    ∃ g cap, v = .slice (some ⟨g, 0, none⟩) xs.length cap ∧ xs.length ≤ cap := by
  rcases h with ⟨rfl, _⟩ | ⟨g, cap, cur, css, bss, h1, h2, h3, _⟩
  · simp at hx
  · exact ⟨g, cap, h1, h3⟩

theorem indexAddrSV_is [Laid] (hE : TabOk P E) (h : RH G N0 H cx w) (hm : ∀ n o, Hm n = some o → H n = some o) {t : TypeId} {x i : SV} {xv iv : Value} (hx : VR cx w x xv) (hi : VR cx w i iv) {K : SV → Option R} (hh : indexAddrSV E Hm t x i K = some r) :
    ∃ sv, Hands (fun K => indexAddrSV E Hm t x i K) sv ∧ ∃ v, (Instr.indexAt t xv iv).run P w = .ok v w ∧ VR cx w sv v := by
  unfold indexAddrSV at hh
  split at hh
  · rename_i el ei e k i hel
    cases hi
    obtain ⟨hu, hsz, hs⟩ := hE.elem hel
    split at hh
    · rename_i E' e' xs
      split at hh
      · rename_i hc
        obtain ⟨rfl, rfl⟩ := hc
        obtain ⟨h0, hh⟩ := ite_some' hh
        obtain ⟨h1, hh⟩ := ite_some' hh
        have h1' : i < (xs.length : Int) := h1
        obtain ⟨b, o, cap, ci, rfl, hb, hcell, hr⟩ := Rd.at hx h0 h1'
        refine ⟨.lf (.cptr e' (N.rd xs i e'.dflt) 0), fun K => by simp only [indexAddrSV, hel]; rw [if_pos (by simp), ite_pos h0, ite_pos h1], _, run_indexAt_slice hu (hs w) b o _ cap k i h0 h1', b, o + i.toNat * e'.size, ci, rfl, hb, hr, hcell⟩
      · cases hh
    · rename_i n
      obtain ⟨rfl, _⟩ := hx
      split at hh
      · rename_i E' e' d ver xs hn
        split at hh
        · rename_i hc
          obtain ⟨rfl, rfl⟩ := hc
          obtain ⟨h0, hh⟩ := ite_some' hh
          obtain ⟨h1, hh⟩ := ite_some' hh
          have h1' : i < (xs.length : Int) := h1
          obtain ⟨_, hl, hes, hrow⟩ := h.ob n _ (hm _ _ hn)
          obtain ⟨g, cap, e1, hcap⟩ := hrow.addr (by omega)
          refine ⟨.lf (.vptr n i 0), fun K => by simp only [indexAddrSV, hel, hn]; rw [if_pos (by simp), ite_pos h0, ite_pos h1], _, by rw [e1]; exact run_indexAt_slice hu (hs w) g 0 _ cap k i h0 h1', g, cap, by rw [hl]; exact e1, h0, by rw [hl]; exact h1', by rw [hes]; simp⟩
        · cases hh
      · rename_i E' e' xs hn
        split at hh
        · rename_i hc
          obtain ⟨rfl, rfl⟩ := hc
          obtain ⟨h0, hh⟩ := ite_some' hh
          obtain ⟨h1, hh⟩ := ite_some' hh
          have h1' : i < (xs.length : Int) := h1
          obtain ⟨_, _, _, hrd⟩ := h.ob n _ (hm _ _ hn)
          obtain ⟨b, o, cap, ci, e1, hb, hcell, hr⟩ := Rd.at hrd h0 h1'
          refine ⟨.lf (.cptr e' (N.rd xs i e'.dflt) 0), fun K => by simp only [indexAddrSV, hel, hn]; rw [if_pos (by simp), ite_pos h0, ite_pos h1], _, by rw [e1]; exact run_indexAt_slice hu (hs w) b o _ cap k i h0 h1', b, o + i.toNat * e'.size, ci, rfl, hb, hr, hcell⟩
        · cases hh
      · cases hh
    · rename_i n lo hi
      obtain ⟨a0, a1, a2, A, cap, A', e1, e2, rfl, e3, e4⟩ := hx
      split at hh
      · rename_i E' e' d ver xs hn
        split at hh
        · rename_i hc
          obtain ⟨rfl, rfl⟩ := hc
          obtain ⟨h0, hh⟩ := ite_some' hh
          obtain ⟨h1, hh⟩ := ite_some' hh
          have h1' : i < hi - lo := h1
          obtain ⟨_, hl, hes, hrow⟩ := h.ob n _ (hm _ _ hn)
          obtain ⟨b, o, rfl, rfl⟩ := e4 (by omega)
          obtain ⟨g, cap', e5, hcap⟩ := hrow.addr (by omega)
          rw [e5] at e1
          simp only [Value.slice.injEq, Option.some.injEq, Addr.mk.injEq, and_true] at e1
          obtain ⟨⟨rfl, rfl⟩, e6, rfl⟩ := e1
          refine ⟨.lf (.vptr n (N.plus lo i) 0), fun K => by simp only [indexAddrSV, hel, hn]; rw [if_pos (by simp), ite_pos h0, ite_pos h1], _, run_indexAt_slice hu (hs w) g _ _ _ k i h0 (by omega), g, cap', by rw [hl]; exact e5, by unfold N.plus; omega, by unfold N.plus; omega, ?_⟩
          rw [hes]; unfold N.plus
          congr 3
          rw [Int.toNat_add a0 h0, Nat.add_mul]; omega
        · cases hh
      · rename_i E' e' xs hn
        split at hh
        · rename_i hc
          obtain ⟨rfl, rfl⟩ := hc
          obtain ⟨h0, hh⟩ := ite_some' hh
          obtain ⟨h1, hh⟩ := ite_some' hh
          have h1' : i < hi - lo := h1
          obtain ⟨hl, hes, _, hrd⟩ := h.ob n _ (hm _ _ hn)
          obtain ⟨b, o, rfl, rfl⟩ := e4 (by omega)
          obtain ⟨b', o', cap', ci, e5, hb, hcell, hr⟩ := Rd.at (i := lo + i) hrd (by omega) (by omega)
          rw [e5] at e1
          simp only [Value.slice.injEq, Option.some.injEq, Addr.mk.injEq, and_true] at e1
          obtain ⟨⟨rfl, rfl⟩, e6, rfl⟩ := e1
          refine ⟨.lf (.cptr e' (N.rd xs (N.plus lo i) e'.dflt) 0), fun K => by simp only [indexAddrSV, hel, hn]; rw [if_pos (by simp), ite_pos h0, ite_pos h1], _, run_indexAt_slice hu (hs w) b' _ _ _ k i h0 (by omega), b', o' + (lo + i).toNat * e'.size, ci, ?_, hb, hr, hcell⟩
          rw [hes]
          congr 3
          rw [Int.toNat_add a0 h0, Nat.add_mul]; omega
        · cases hh
      · cases hh
    · cases hh
  · cases hh

theorem run_sliceAt [Laid] (hE : TabOk P E) {t el : TypeId} {ei : TI} {e : Ty} (hel : elemOf E t = some (el, ei, e)) (A : Option Addr) (len cap : Nat) {lv hv : Option Value} {l h : Option Int} (hl : IntOpt lv l) (hh : IntOpt hv h)
    (h0 : 0 ≤ l.getD 0) (h1 : l.getD 0 ≤ h.getD (len : Int)) (h2 : h.getD (len : Int) ≤ (cap : Int)) :
    (Instr.sliceAt t (.slice A len cap) lv hv none).run P w = .ok (.slice (if cap = (l.getD 0).toNat then A else A.map (·.add ((l.getD 0).toNat * e.size))) ((h.getD (len : Int)).toNat - (l.getD 0).toNat) (cap - (l.getD 0).toNat)) w := by
  obtain ⟨hu, hsz, hs⟩ := hE.elem hel
  simp only [Instr.sliceAt, Sem.run_bind, run_underlying hu, Result.andThen_ok, Instr.slice, run_bounds (P := P) (w := w) true len cap hl hh h0 h1 h2, hs, Sem.run_pure]

theorem sliceSV_is [Laid] (hE : TabOk P E) (h : RH G N0 H cx w) (hm : ∀ n o, Hm n = some o → H n = some o) {t : TypeId} {x : SV} {xv : Value} (hx : VR cx w x xv) {lv hv : Option Value} {l h' : Option Int} (hl : IntOpt lv l) (hhi : IntOpt hv h')
    {K : SV → Option R} (hh : sliceSV E Hm t x l h' K = some r) :
    ∃ sv, Hands (fun K => sliceSV E Hm t x l h' K) sv ∧ ∃ v, (Instr.sliceAt t xv lv hv none).run P w = .ok v w ∧ VR cx w sv v := by
  unfold sliceSV at hh
  split at hh
  · rename_i el ei e hel
    split at hh
    · obtain ⟨A, rfl⟩ := hx
      obtain ⟨h0, hh⟩ := ite_some' hh
      obtain ⟨h1, hh⟩ := ite_some' hh
      refine ⟨.lf .nil, fun K => by simp only [sliceSV, hel]; rw [ite_pos h0, ite_pos h1], _, run_sliceAt hE hel A 0 0 hl hhi (by omega) (by simp; omega) (by simp; omega), ?_⟩
      have e0 : (0 : Nat) = (l.getD 0).toNat := by rw [h0]; rfl
      refine ⟨A, ?_⟩
      rw [if_pos e0]
      simp [h0, h1]
    · rename_i T e' xs
      split at hh
      · rename_i hc
        obtain ⟨rfl, rfl⟩ := hc
        obtain ⟨⟨h0, h1, h2⟩, hh⟩ := in3_some hh
        have hx' := hx
        obtain ⟨A, cap, e1, hcap, hel'⟩ := hx'
        simp at e1; subst e1
        refine ⟨.lf (.sl T e' (N.cut xs (l.getD 0) (h'.getD (N.len xs)))), fun K => by simp only [sliceSV, hel]; rw [if_pos (by simp), in3_pos ⟨h0, h1, h2⟩], ?_⟩
        unfold N.len at h1 h2 ⊢
        refine ⟨_,  run_sliceAt hE hel A xs.length cap hl hhi h0 h1 (by omega), ?_⟩
        have e3 : (h'.getD (xs.length : Int)).toNat - (l.getD 0).toNat = (h'.getD (xs.length : Int) - l.getD 0).toNat := by omega
        rw [e3]
        refine Rd.part hx h0 h1 h2 (by omega) fun hlt => ?_
        obtain ⟨b, o, ci, e2, _⟩ := hel' 0 (by omega)
        refine ⟨b, o, e2, ?_⟩
        rw [if_neg (by omega), e2]
        simp only [Option.map_some, Option.some.injEq]
        unfold Addr.add; split
        · rename_i hz; simp [hz]
        · rfl
      · cases hh
    · rename_i n
      split at hh
      · rename_i o hn
        split at hh
        · rename_i hrow
          split at hh
          · rename_i m hlen
            obtain ⟨⟨h0, h1, h2⟩, hh⟩ := in3_some hh
            obtain ⟨rfl, _⟩ := hx
            have hob := h.ob n _ (hm _ _ hn)
            -- the row's own value
            have key : ∃ A cap, (cx.μ n).v = .slice A (cx.μ n).len cap ∧ (cx.μ n).len ≤ cap ∧ ((cx.μ n).len : Int) = m ∧ (cx.μ n).es = e.size ∧ (0 < (cx.μ n).len → ∃ b o, A = some ⟨b, o, none⟩) := by
              cases o with
              | box => simp [Ob.isRow] at hrow
              | vec E' e' d ver xs =>
                simp only [Ob.isRow, Bool.and_eq_true, beq_iff_eq] at hrow
                obtain ⟨rfl, rfl⟩ := hrow
                obtain ⟨_, hl', hes, hr⟩ := hob
                simp [Ob.len, N.len] at hlen
                obtain ⟨A, cap, e1, e2⟩ := hr.slice
                refine ⟨A, cap, by rw [hl']; exact e1, by omega, by omega, hes, fun hp => ?_⟩
                obtain ⟨g, c, e3, _⟩ := hr.addr (by omega)
                rw [e1] at e3; simp at e3; exact ⟨g, 0, e3.1⟩
              | fro E' e' xs =>
                simp only [Ob.isRow, Bool.and_eq_true, beq_iff_eq] at hrow
                obtain ⟨rfl, rfl⟩ := hrow
                obtain ⟨hl', hes, _, hr⟩ := hob
                simp [Ob.len, N.len] at hlen
                obtain ⟨A, cap, e1, e2, e3⟩ := hr
                simp at e1
                refine ⟨A, cap, by rw [hl']; exact e1, by omega, by omega, hes, fun hp => ?_⟩
                obtain ⟨b, o, ci, e4, _⟩ := e3 0 (by omega)
                exact ⟨b, o, e4⟩
            obtain ⟨A, cap, e1, e2, rfl, hes, e3⟩ := key
            refine ⟨.lf (.sub n (l.getD 0) (h'.getD ((cx.μ n).len : Int))), fun K => by simp only [sliceSV, hel, hn, hlen]; rw [if_pos hrow, in3_pos ⟨h0, h1, h2⟩], _, by rw [e1]; exact run_sliceAt hE hel A _ cap hl hhi h0 h1 (by omega), ?_⟩
            refine ⟨h0, h1, h2, A, cap, _, e1, e2, by congr 1; omega, fun hz => ?_, fun hlt => ?_⟩
            · rw [hz]; simp [Addr.add]
            · obtain ⟨b, o, rfl⟩ := e3 (by omega)
              refine ⟨b, o, rfl, ?_⟩
              rw [if_neg (by omega), hes]
              simp only [Option.map_some, Option.some.injEq]
              unfold Addr.add; split
              · rename_i hz; simp [hz]
              · rfl
          · cases hh
        · cases hh
      · cases hh
    · rename_i n a b
      split at hh
      · rename_i o hn
        split at hh
        · rename_i hrow
          obtain ⟨⟨h0, h1, h2⟩, hh⟩ := in3_some hh
          obtain ⟨a0, a1, a2, A, cap, A', e1, e2, rfl, e3, e4⟩ := hx
          have hes : (cx.μ n).es = e.size := by
            have hob := h.ob n _ (hm _ _ hn)
            cases o with
            | box => simp [Ob.isRow] at hrow
            | vec E' e' d ver xs =>
              simp only [Ob.isRow, Bool.and_eq_true, beq_iff_eq] at hrow
              obtain ⟨rfl, rfl⟩ := hrow; exact hob.2.2.1
            | fro E' e' xs =>
              simp only [Ob.isRow, Bool.and_eq_true, beq_iff_eq] at hrow
              obtain ⟨rfl, rfl⟩ := hrow; exact hob.2.1
          unfold N.diff at h1 h2 hh
          have ed : ((b - a).toNat : Int) = b - a := by omega
          refine ⟨.lf (.sub n (N.plus a (l.getD 0)) (N.plus a (h'.getD (b - a)))), fun K => by simp only [sliceSV, hel, hn]; unfold N.diff; rw [if_pos hrow, in3_pos ⟨h0, h1, h2⟩], _, run_sliceAt hE hel A' _ _ hl hhi h0 (by rw [ed]; exact h1) (by rw [ed]; omega), ?_⟩
          rw [ed]
          unfold N.plus
          refine ⟨by omega, by omega, by omega, A, cap, _, e1, e2, by congr 1 <;> omega, fun hz => ?_, fun hlt => ?_⟩
          · have : a = 0 := by omega
            have hz' : l.getD 0 = 0 := by omega
            rw [e3 this, hz']; simp [Addr.add]
          · obtain ⟨b', o', rfl, rfl⟩ := e4 (by omega)
            refine ⟨b', o', rfl, ?_⟩
            rw [if_neg (by omega), hes]
            simp only [Option.map_some, Option.some.injEq]
            rw [Int.toNat_add a0 h0, Nat.add_mul]
            unfold Addr.add; split
            · rename_i hz; simp; omega
            · simp; omega
        · cases hh
      · cases hh
    · cases hh
  · cases hh

theorem sliceNone_is [Laid] (hE : TabOk P E) (h : RH G N0 H cx w) (hm : ∀ n o, Hm n = some o → H n = some o) {t el : TypeId} {ei : TI} {e : Ty} (hel : elemOf E t = some (el, ei, e)) {x : SV} {xv : Value} (hx : VR cx w x xv) {lo hi mx : Option SV} {lv hv mv : Option Value}
    (hl : match lo, lv with | none, none => True | some a, some b => VR cx w a b | _, _ => False) (hhi : match hi, hv with | none, none => True | some a, some b => VR cx w a b | _, _ => False) (hmx : match mx, mv with | none, none => True | some a, some b => VR cx w a b | _, _ => False)
    {K : SV → Option R} (hh : sliceNone x lo hi mx K = some r) :
    ∃ sv, Hands (fun K => sliceNone x lo hi mx K) sv ∧ ∃ v, (Instr.sliceAt t xv lv hv mv).run P w = .ok v w ∧ VR cx w sv v := by
  unfold sliceNone at hh
  split at hh
  · rename_i k k'
    cases lv with
    | some _ => exact hl.elim
    | none => cases hv with
      | none => exact hhi.elim
      | some hv => cases mv with
        | none => exact hmx.elim
        | some mv =>
          cases hhi; cases hmx
          obtain ⟨hu, hsz, hs⟩ := hE.elem hel
          have key : ∀ A l c, xv = .slice A l c → ∃ A', (Instr.sliceAt t xv none (some (.int k 0)) (some (.int k' 0))).run P w = .ok (.slice A' 0 0) w := fun A l c e1 => by
            subst e1
            simp only [Instr.sliceAt, Sem.run_bind, run_underlying hu, Result.andThen_ok, Instr.slice, Instr.sliceBounds, if_true, Option.isSome_some, run_sliceBound w k' 0 c _ (by omega) (by omega), Sem.run_pure, hs]
            simp only [Int.toNat_zero, run_sliceBound (P := P) w k 0 0 _ (Int.le_refl _) (by simp), Result.andThen_ok]
            exact ⟨_, rfl⟩
          have fin : (∃ A l c, xv = .slice A l c) → ∃ v, (Instr.sliceAt t xv none (some (.int k 0)) (some (.int k' 0))).run P w = .ok v w ∧ VR cx w (.lf .nil) v := fun ⟨A, l, c, e1⟩ => by
            obtain ⟨A', h⟩ := key A l c e1
            exact ⟨_, h, A', rfl⟩
          split at hh
          · obtain ⟨A, rfl⟩ := hx; exact ⟨.lf .nil, fun K => rfl, fin ⟨A, 0, 0, rfl⟩⟩
          · obtain ⟨A, cap, e1, _⟩ := hx; simp at e1; exact ⟨.lf .nil, fun K => rfl, fin ⟨A, _, cap, e1⟩⟩
          · obtain ⟨_, A, l, c, e1⟩ := hx; exact ⟨.lf .nil, fun K => rfl, fin ⟨A, l, c, e1⟩⟩
          · obtain ⟨_, _, _, A, cap, A', e1, e2, e3, _⟩ := hx; exact ⟨.lf .nil, fun K => rfl, fin ⟨A', _, _, e3⟩⟩
          · obtain ⟨_, _, ⟨A, l, c, e1⟩, _⟩ := hx; exact ⟨.lf .nil, fun K => rfl, fin ⟨A, l, c, e1⟩⟩
          · cases hh
  · cases hh
end
end Go.Sh

namespace Go.Sh
open Go Go.RowKit

/-! ## Steps that change rows, boxes and memory -/
section
variable {cx cx' : Cx} {w w' : World} {G : Base} {N N' nx n' : Nat} {H H' : Heap}

theorem RH.step [Laid] (h : RH G N H cx w) (D : Nat → Prop) (hN : N ≤ N')
    (hout : ∀ n, ¬ D n → H' n = H n ∧ cx'.μ n = cx.μ n)
    (hsame : ∀ n o, ¬ D n → H n = some o → ∀ b ∈ (cx.μ n).foot, Same w w' b)
    (hob : ∀ n o, D n → H' n = some o → ObR cx' w' (cx'.μ n) o ∧ n < N' ∧ (cx'.μ n).foot.Nodup ∧ ∀ b ∈ (cx'.μ n).foot, (G.w0.heap.size ≤ b ∨ n < G.nio ∧ G.lent b) ∧ b < w'.heap.size ∧ ¬ cx'.S b)
    (hdead : ∀ n, D n → H' n = none → (cx'.μ n).foot = [])
    (hdj1 : ∀ n m o o', D n → H' n = some o → ¬ D m → H m = some o' → ∀ b ∈ (cx'.μ n).foot, b ∉ (cx.μ m).foot)
    (hdj2 : ∀ n m o o', D n → D m → H' n = some o → H' m = some o' → n ≠ m → ∀ b ∈ (cx'.μ n).foot, b ∉ (cx'.μ m).foot)
    (hS' : ∀ n o b, ¬ D n → H n = some o → b ∈ (cx.μ n).foot → ¬ cx'.S b)
    (hss : ∀ b, cx'.S b → b < w'.heap.size ∧ (G.F0 b ∨ G.w0.heap.size ≤ b))
    (hos : w'.os = w.os) (htape : w'.tape = w.tape) (hout' : w'.output = w.output) (hsize : w.heap.size ≤ w'.heap.size)
    (hblock : ∀ b, b < G.w0.heap.size → ¬ G.lent b → Same w w' b)
    (htr : Tr nx n' cx w cx' w') (hold : ∀ n o, ¬ D n → H n = some o → o.old nx n') : RH G N' H' cx' w' where
  ob n o hn := by
    by_cases hD : D n
    · exact (hob n o hD hn).1
    · rw [(hout n hD).1] at hn; rw [(hout n hD).2]
      exact (h.ob n o hn).tr htr (hold n o hD hn) (hsame n o hD hn)
  lt n o hn := by
    by_cases hD : D n
    · exact (hob n o hD hn).2.1
    · rw [(hout n hD).1] at hn; exact Nat.lt_of_lt_of_le (h.lt n o hn) hN
  dead n hn := by
    by_cases hD : D n
    · exact hdead n hD hn
    · rw [(hout n hD).1] at hn; rw [(hout n hD).2]; exact h.dead n hn
  dj n m o o' hn hm hne b hb := by
    by_cases hD : D n <;> by_cases hD' : D m
    · exact hdj2 n m o o' hD hD' hn hm hne b hb
    · rw [(hout m hD').1] at hm; rw [(hout m hD').2]; exact hdj1 n m o o' hD hn hD' hm b hb
    · rw [(hout n hD).1] at hn; rw [(hout n hD).2] at hb; exact fun hb' => hdj1 m n o' o hD' hm hD hn b hb' hb
    · rw [(hout n hD).1] at hn; rw [(hout m hD').1] at hm; rw [(hout n hD).2] at hb; rw [(hout m hD').2]; exact h.dj n m o o' hn hm hne b hb
  nd n o hn := by
    by_cases hD : D n
    · exact (hob n o hD hn).2.2.1
    · rw [(hout n hD).1] at hn; rw [(hout n hD).2]; exact h.nd n o hn
  mine n o b hn hb := by
    by_cases hD : D n
    · exact (hob n o hD hn).2.2.2 b hb
    · rw [(hout n hD).1] at hn; rw [(hout n hD).2] at hb
      obtain ⟨h1, h2, _⟩ := h.mine n o b hn hb
      exact ⟨h1, Nat.lt_of_lt_of_le h2 hsize, hS' n o b hD hn hb⟩
  ss b hb := (hss b hb).1
  sg b hb := (hss b hb).2
  os := hos.trans h.os
  tape := htape.trans h.tape
  output := hout'.trans h.output
  size := Nat.le_trans h.size hsize
  block b hb hl := (hblock b hb hl).trans (h.block b hb hl)
  laid := h.laid

theorem RH.mono [Laid] (h : RH G N H cx w) (hN : N ≤ N') : RH G N' H cx w := { h with lt := fun n o hn => Nat.lt_of_lt_of_le (h.lt n o hn) hN }

theorem Tr.trans {cx1 cx2 : Cx} {w1 w2 : World} {a b c : Nat} (h1 : Tr a b cx w cx1 w1) (h2 : Tr b c cx1 w1 cx2 w2) (hab : a ≤ b) (hbc : b ≤ c) : Tr a c cx w cx2 w2 where
  S b hb := h2.S b (h1.S b hb)
  hp b hb := (h2.hp b (h1.S b hb)).trans (h1.hp b hb)
  μ m hm := by
    obtain ⟨a1, a2, a3, a4, a5⟩ := h1.μ m (by omega)
    obtain ⟨b1, b2, b3, b4, b5⟩ := h2.μ m (by omega)
    refine ⟨b1.trans a1, b2.trans a2, b3.trans a3, Nat.le_trans a4 b4, fun hv => ?_⟩
    obtain ⟨c1, c2⟩ := a5 (by omega)
    obtain ⟨d1, d2⟩ := b5 (by omega)
    exact ⟨d1.trans c1, fun b hb => (d2 b (by rw [c1]; exact hb)).trans (c2 b hb)⟩

/-- blocks that nobody holds -/
def Free (G : Base) (H : Heap) (cx : Cx) (w : World) (bs : List Nat) : Prop :=
  ∀ b ∈ bs, G.w0.heap.size ≤ b ∧ b < w.heap.size ∧ ¬ cx.S b ∧ ∀ n o, H n = some o → b ∉ (cx.μ n).foot

/-- rows that were given up or frozen -/
structure Gv (H : Heap) (cx : Cx) (H1 : Heap) (cx1 : Cx) : Prop where
  S : ∀ b, cx1.S b → cx.S b ∨ ∃ n o, H n = some o ∧ b ∈ (cx.μ n).foot
  feet : ∀ n o, H1 n = some o → (∃ o', H n = some o') ∧ ∀ b ∈ (cx1.μ n).foot, b ∈ (cx.μ n).foot

theorem Gv.refl (H : Heap) (cx : Cx) : Gv H cx H cx := ⟨fun _ h => .inl h, fun n o h => ⟨⟨o, h⟩, fun _ hb => hb⟩⟩

theorem Gv.trans {H1 H2 : Heap} {cx1 cx2 : Cx} (h1 : Gv H cx H1 cx1) (h2 : Gv H1 cx1 H2 cx2) : Gv H cx H2 cx2 where
  S b hb := by
    rcases h2.S b hb with hb | ⟨n, o, hn, hb⟩
    · exact h1.S b hb
    · obtain ⟨⟨o', hn'⟩, hf⟩ := h1.feet n o hn
      exact .inr ⟨n, o', hn', hf b hb⟩
  feet n o hn := by
    obtain ⟨⟨o', hn'⟩, hf⟩ := h2.feet n o hn
    obtain ⟨he, hf'⟩ := h1.feet n o' hn'
    exact ⟨he, fun b hb => hf' b (hf b hb)⟩

theorem Free.gv {H1 : Heap} {cx1 : Cx} {bs : List Nat} (h : Free G H cx w bs) (g : Gv H cx H1 cx1) : Free G H1 cx1 w bs := fun b hb => by
  obtain ⟨h1, h2, h3, h4⟩ := h b hb
  refine ⟨h1, h2, fun hS => ?_, fun n o hn hf => ?_⟩
  · rcases g.S b hS with hS | ⟨n, o, hn, hf⟩
    · exact h3 hS
    · exact h4 n o hn hf
  · obtain ⟨⟨o', hn'⟩, hf'⟩ := g.feet n o hn
    exact h4 n o' hn' (hf' b hf)

theorem Free.nil : Free G H cx w [] := fun b hb => by cases hb

theorem Free.append {bs bs' : List Nat} (h : Free G H cx w bs) (h' : Free G H cx w bs') : Free G H cx w (bs ++ bs') := fun b hb => by
  rcases List.mem_append.1 hb with hb | hb
  · exact h b hb
  · exact h' b hb

/-- row n is frozen -/
theorem RH.freeze2 [Laid] (h : RH G N H cx w) {n : Nat} {Et : TypeId} {e : Ty} {d : Bool} {ver : Nat} {xs : List e.den} (hn : H n = some (.vec Et e d ver xs)) (hio : G.nio ≤ n) (nx : Nat) :
    ∃ cx1, RH G N (fun m => if m = n then some (.fro Et e xs) else H m) cx1 w ∧ Tr nx nx cx w cx1 w ∧ Gv H cx (fun m => if m = n then some (.fro Et e xs) else H m) cx1 ∧
      Rd w cx1.S (.slice Et e) [(cx.μ n).v] xs ∧ (∀ m, m ≠ n → cx1.μ m = cx.μ m) ∧ ∀ b ∈ (cx.μ n).foot, cx1.S b := by
  obtain ⟨hv, hl, hes, hrow⟩ := h.ob n _ hn
  let cx1 : Cx := { S := fun b => cx.S b ∨ b ∈ (cx.μ n).foot, μ := fun m => if m = n then { cx.μ n with ver := (cx.μ n).ver + 1, foot := [] } else cx.μ m }
  have hrd : Rd w cx1.S (.slice Et e) [(cx.μ n).v] xs := VecR.rd (h.ob n _ hn).2 (fun b hb => .inl hb) fun b hb => .inr hb
  have hμ : cx1.μ n = { cx.μ n with ver := (cx.μ n).ver + 1, foot := [] } := if_pos rfl
  have hμ' : ∀ m, m ≠ n → cx1.μ m = cx.μ m := fun m hm => if_neg hm
  have htr : Tr nx nx cx w cx1 w := ⟨fun b hb => .inl hb, fun _ _ => rfl, fun m _ => by
    by_cases hm : m = n
    · subst hm; rw [hμ]; exact ⟨rfl, rfl, rfl, Nat.le_succ _, fun h => absurd h (by simp)⟩
    · rw [hμ' m hm]; exact ⟨rfl, rfl, rfl, Nat.le_refl _, fun _ => ⟨rfl, fun _ _ => rfl⟩⟩⟩
  refine ⟨cx1, ?_, htr, ⟨fun b hb => hb.imp id fun hb => ⟨n, _, hn, hb⟩, fun m o hm => ?_⟩, hrd, hμ', fun b hb => .inr hb⟩
  · refine h.step (fun m => m = n) (Nat.le_refl _) (fun m hm => ⟨if_neg hm, hμ' m hm⟩) (fun _ _ _ _ _ _ => rfl) ?_ ?_ ?_ ?_ ?_ ?_ rfl rfl rfl (Nat.le_refl _) (fun _ _ _ => rfl) htr (fun m o _ _ k _ => by omega)
    · rintro m o rfl ho
      simp at ho; subst ho
      rw [hμ]
      exact ⟨⟨hl, hes, rfl, hrd⟩, h.lt _ _ hn, List.nodup_nil, fun b hb => by cases hb⟩
    · rintro m rfl ho; simp at ho
    · rintro m k o o' rfl ho _ _ b hb; rw [hμ] at hb; cases hb
    · rintro m k o o' rfl rfl _ _ hne; exact absurd rfl hne
    · rintro m o b hm ho hb (hS | hS)
      · exact (h.mine m o b ho hb).2.2 hS
      · exact h.dj m n o _ ho hn hm b hb hS
    · rintro b (hb | hb)
      · exact ⟨h.ss b hb, h.sg b hb⟩
      · obtain ⟨h1, h2, _⟩ := h.mine n _ b hn hb
        exact ⟨h2, .inr (h1.resolve_right fun h => by omega)⟩
  · by_cases hm' : m = n
    · subst hm'; exact ⟨⟨_, hn⟩, fun b hb => by rw [hμ] at hb; cases hb⟩
    · simp only [if_neg hm'] at hm; exact ⟨⟨o, hm⟩, fun b hb => by rw [hμ' m hm'] at hb; exact hb⟩

theorem RH.freeze [Laid] (h : RH G N H cx w) {n : Nat} {Et : TypeId} {e : Ty} {d : Bool} {ver : Nat} {xs : List e.den} (hn : H n = some (.vec Et e d ver xs)) (hio : G.nio ≤ n) (nx : Nat) :
    ∃ cx1, RH G N (fun m => if m = n then some (.fro Et e xs) else H m) cx1 w ∧ Tr nx nx cx w cx1 w ∧ Gv H cx (fun m => if m = n then some (.fro Et e xs) else H m) cx1 ∧
      Rd w cx1.S (.slice Et e) [(cx.μ n).v] xs ∧ (∀ m, m ≠ n → cx1.μ m = cx.μ m) := by
  obtain ⟨cx1, h1, h2, h3, h4, h5, _⟩ := h.freeze2 hn hio nx
  exact ⟨cx1, h1, h2, h3, h4, h5⟩

/-- row n is given up: what it owned is free -/
theorem RH.kill [Laid] (h : RH G N H cx w) {n : Nat} {o : Ob} (hn : H n = some o) (hio : G.nio ≤ n) (nx : Nat) :
    ∃ cx1, RH G N (fun m => if m = n then none else H m) cx1 w ∧ Tr nx nx cx w cx1 w ∧ Gv H cx (fun m => if m = n then none else H m) cx1 ∧
      Free G (fun m => if m = n then none else H m) cx1 w (cx.μ n).foot ∧ cx1.S = cx.S ∧ (∀ m, m ≠ n → cx1.μ m = cx.μ m) := by
  let cx1 : Cx := { S := cx.S, μ := fun m => if m = n then { cx.μ n with ver := (cx.μ n).ver + 1, foot := [] } else cx.μ m }
  have hμ : cx1.μ n = { cx.μ n with ver := (cx.μ n).ver + 1, foot := [] } := if_pos rfl
  have hμ' : ∀ m, m ≠ n → cx1.μ m = cx.μ m := fun m hm => if_neg hm
  have htr : Tr nx nx cx w cx1 w := ⟨fun b hb => hb, fun _ _ => rfl, fun m _ => by
    by_cases hm : m = n
    · subst hm; rw [hμ]; exact ⟨rfl, rfl, rfl, Nat.le_succ _, fun h => absurd h (by simp)⟩
    · rw [hμ' m hm]; exact ⟨rfl, rfl, rfl, Nat.le_refl _, fun _ => ⟨rfl, fun _ _ => rfl⟩⟩⟩
  refine ⟨cx1, ?_, htr, ⟨fun b hb => .inl hb, fun m o hm => ?_⟩, fun b hb => ?_, rfl, hμ'⟩
  · refine h.step (fun m => m = n) (Nat.le_refl _) (fun m hm => ⟨if_neg hm, hμ' m hm⟩) (fun _ _ _ _ _ _ => rfl) ?_ ?_ ?_ ?_ ?_ ?_ rfl rfl rfl (Nat.le_refl _) (fun _ _ _ => rfl) htr (fun m o _ _ k _ => by omega)
    · rintro m o rfl ho; simp at ho
    · rintro m rfl _; rw [hμ]
    · rintro m k o o' rfl ho; simp at ho
    · rintro m k o o' rfl rfl _ _ hne; exact absurd rfl hne
    · rintro m o b hm ho hb hS; exact (h.mine m o b ho hb).2.2 hS
    · rintro b hb; exact ⟨h.ss b hb, h.sg b hb⟩
  · by_cases hm' : m = n
    · subst hm'; simp at hm
    · simp only [if_neg hm'] at hm; exact ⟨⟨o, hm⟩, fun b hb => by rw [hμ' m hm'] at hb; exact hb⟩
  · obtain ⟨h1, h2, h3⟩ := h.mine n _ b hn hb
    refine ⟨h1.resolve_right fun h => by omega, h2, h3, fun m o' hm hb' => ?_⟩
    by_cases hm' : m = n
    · subst hm'; simp at hm
    · simp only [if_neg hm'] at hm; rw [hμ' m hm'] at hb'; exact h.dj n m o o' hn hm (Ne.symm hm') b hb hb'

/-! ### Taking -/
def Upd.names (u : Upd) : List Nat := u.map (·.1)

theorem Heap.upd_append (H : Heap) (u u' : Upd) : H.upd (u ++ u') = (H.upd u).upd u' := by
  induction u generalizing H with
  | nil => rfl
  | cons a u ih => exact ih _

theorem Heap.upd_other (H : Heap) (u : Upd) {n : Nat} (h : n ∉ Upd.names u) : H.upd u n = H n := by
  induction u generalizing H with
  | nil => rfl
  | cons a u ih =>
    simp only [Upd.names, List.map_cons, List.mem_cons, not_or] at h
    show Heap.upd _ u n = _
    rw [ih _ h.2, if_neg h.1]

/-- what was taken: deep or stable -/
def Took (G : Base) (H : Heap) (cx : Cx) (w : World) (deep : Bool) (t : Ty) (vs : List Value) (x : t.den) (bs : List Nat) : Prop :=
  if deep then Ow w t vs x bs ∧ Free G H cx w bs ∧ bs.Nodup else Rd w cx.S t vs x ∧ bs = []

theorem Took.gv [Laid] {H1 : Heap} {cx1 : Cx} {deep : Bool} {t : Ty} {vs : List Value} {x : t.den} {bs : List Nat} (h : Took G H cx w deep t vs x bs) (g : Gv H cx H1 cx1) (hS : ∀ b, cx.S b → cx1.S b) : Took G H1 cx1 w deep t vs x bs := by
  unfold Took at *
  split at h
  · rename_i hd; simp only [hd, if_true]; exact ⟨h.1, h.2.1.gv g, h.2.2⟩
  · rename_i hd; simp only [hd]; exact ⟨h.1.mono hS fun _ _ => rfl, h.2⟩

theorem Took.el {deep : Bool} {t : Ty} {vs : List Value} {x : t.den} {bs : List Nat} (h : Took G H cx w deep t vs x bs) : El w cx.S deep t vs x bs := by
  unfold Took at h; unfold El
  split at h
  · rename_i hd; simp only [hd, if_true]; exact h.1
  · rename_i hd; simp only [hd]; exact h

theorem Took.free [Laid] {deep : Bool} {t : Ty} {vs : List Value} {x : t.den} {bs : List Nat} (h : Took G H cx w deep t vs x bs) : Free G H cx w bs ∧ bs.Nodup := by
  unfold Took at h
  split at h
  · exact h.2
  · rw [h.2]; exact ⟨Free.nil, List.nodup_nil⟩

/-- one slice taken -/
theorem LV.take_sound [Laid] (h : RH G N H cx w) {Hm : Heap} {wr : Nat → Bool} {deep : Bool} {Et : TypeId} {e : Ty} {c : LV} {v : Value} {xs : List e.den} {u : Upd} (hm : ∀ n o, n ∈ Upd.names u → Hm n = some o → H n = some o) (hm' : ∀ n Et e xs, Hm n = some (.fro Et e xs) → H n = some (.fro Et e xs)) (hwr : ∀ n, wr n = true → G.nio ≤ n)
    (ht : c.take Hm wr deep Et e = some (xs, u)) (hv : VL cx w c v) (nx : Nat) :
    ∃ cx1 bs, RH G N (H.upd u) cx1 w ∧ Tr nx nx cx w cx1 w ∧ Gv H cx (H.upd u) cx1 ∧ Took G (H.upd u) cx1 w deep (.slice Et e) [v] xs bs ∧ (∀ b ∈ bs, ∃ n o, n ∈ Upd.names u ∧ H n = some o ∧ b ∈ (cx.μ n).foot) ∧ (∀ m, m ∉ Upd.names u → cx1.μ m = cx.μ m) := by
  cases c <;> simp only [LV.take] at ht
  case nil =>
    simp at ht; obtain ⟨rfl, rfl⟩ := ht
    obtain ⟨A, rfl⟩ := hv
    refine ⟨cx, [], h, Tr.refl _ _ _, Gv.refl _ _, ?_, fun b hb => (by cases hb), fun _ _ => rfl⟩
    unfold Took; split
    · exact ⟨⟨_, rfl, .inl ⟨rfl, ⟨A, rfl⟩, rfl⟩⟩, Free.nil, List.nodup_nil⟩
    · exact ⟨⟨A, 0, rfl, Nat.le_refl _, fun i hi => by simp at hi⟩, rfl⟩
  case sl E' e' ys =>
    split at ht
    · cases ht
    · rename_i hd
      split at ht
      · rename_i zs hz
        simp at ht; obtain ⟨rfl, rfl⟩ := ht
        obtain ⟨rfl, rfl, rfl⟩ := asRows_some hz
        refine ⟨cx, [], h, Tr.refl _ _ _, Gv.refl _ _, ?_, fun b hb => (by cases hb), fun _ _ => rfl⟩
        unfold Took; rw [if_neg hd]
        exact ⟨hv, rfl⟩
      · cases ht
  case ref n =>
    split at ht
    · rename_i E' e' d ver ys hn
      split at ht
      · rename_i zs hz
        obtain ⟨rfl, rfl, rfl⟩ := asRows_some hz
        split at ht
        · rename_i hw
          split at ht
          · rename_i hd
            split at ht
            · rename_i hdf
              simp at ht; obtain ⟨rfl, rfl⟩ := ht
              have hn' := hm n _ (by simp [Upd.names]) hn
              obtain ⟨cx1, h1, h2, h3, h4, h5, h6⟩ := h.kill hn' (hwr n hw) nx
              refine ⟨cx1, (cx.μ n).foot, h1, h2, h3, ?_, fun b hb => ⟨n, _, by simp [Upd.names], hn', hb⟩, fun m hm => h6 m (by simpa [Upd.names] using hm)⟩
              unfold Took; rw [if_pos hd]
              refine ⟨⟨v, rfl, ?_⟩, h4, h.nd _ _ hn'⟩
              obtain ⟨_, _, _, hrow⟩ := h.ob n _ hn'
              rw [hv.1]
              refine hrow.mono (fun _ _ => rfl) fun c x bs hb hE => ?_
              unfold El at hE
              split at hE
              · exact hE
              · rename_i hd'
                simp [hd'] at hdf
                rw [hE.2]; exact hE.1.flat hdf
            · cases ht
          · rename_i hd
            simp at ht; obtain ⟨rfl, rfl⟩ := ht
            have hn' := hm n _ (by simp [Upd.names]) hn
            obtain ⟨cx1, h1, h2, h3, h4, h6⟩ := h.freeze hn' (hwr n hw) nx
            refine ⟨cx1, [], h1, h2, h3, ?_, fun b hb => (by cases hb), fun m hm => h6 m (by simpa [Upd.names] using hm)⟩
            unfold Took; rw [if_neg hd, hv.1]
            exact ⟨h4, rfl⟩
        · cases ht
      · cases ht
    · rename_i E' e' ys hn
      split at ht
      · cases ht
      · rename_i hd
        split at ht
        · rename_i zs hz
          obtain ⟨rfl, rfl, rfl⟩ := asRows_some hz
          simp at ht; obtain ⟨rfl, rfl⟩ := ht
          refine ⟨cx, [], h, Tr.refl _ _ _, Gv.refl _ _, ?_, fun b hb => (by cases hb), fun _ _ => rfl⟩
          unfold Took; rw [if_neg hd, hv.1]
          exact ⟨(h.ob n _ (hm' _ _ _ _ hn)).2.2.2, rfl⟩
        · cases ht
    · cases ht
  case sub n lo hi =>
    obtain ⟨q0, q1, q2, A, cap, A', e1, e2, rfl, e3, e4⟩ := hv
    split at ht
    · rename_i E' e' d ver ys hn
      split at ht
      · cases ht
      · rename_i hd
        split at ht
        · rename_i hw
          split at ht
          · rename_i zs hz
            obtain ⟨rfl, rfl, rfl⟩ := asRows_some hz
            simp at ht; obtain ⟨rfl, rfl⟩ := ht
            have hn' := hm n _ (by simp [Upd.names]) hn
            obtain ⟨_, hlen, hes, _⟩ := h.ob n _ hn'
            obtain ⟨cx1, h1, h2, h3, h4, h6⟩ := h.freeze hn' (hwr n hw) nx
            refine ⟨cx1, [], h1, h2, h3, ?_, fun b hb => (by cases hb), fun m hm => h6 m (by simpa [Upd.names] using hm)⟩
            unfold Took; rw [if_neg hd]
            rw [e1] at h4
            exact ⟨h4.part q0 q1 (by show hi ≤ (ys.length : Int); rw [← hlen]; exact q2) (by omega) (by rw [← hes]; exact e4), rfl⟩
          · cases ht
        · cases ht
    · rename_i E' e' ys hn
      split at ht
      · cases ht
      · rename_i hd
        split at ht
        · rename_i zs hz
          obtain ⟨rfl, rfl, rfl⟩ := asRows_some hz
          simp at ht; obtain ⟨rfl, rfl⟩ := ht
          obtain ⟨hlen, hes, _, hr⟩ := h.ob n _ (hm' _ _ _ _ hn)
          refine ⟨cx, [], h, Tr.refl _ _ _, Gv.refl _ _, ?_, fun b hb => (by cases hb), fun _ _ => rfl⟩
          unfold Took; rw [if_neg hd]
          rw [e1] at hr
          exact ⟨hr.part q0 q1 (by show hi ≤ (ys.length : Int); rw [← hlen]; exact q2) (by omega) (by rw [← hes]; exact e4), rfl⟩
        · cases ht
    · cases ht
  case dsl n ver i off E' e' ys =>
    split at ht
    · rename_i T t d ver' xs hn
      split at ht
      · cases ht
      · rename_i hd
        split at ht
        · rename_i hw
          split at ht
          · rename_i hver
            split at ht
            · rename_i zs hz
              obtain ⟨rfl, rfl, rfl⟩ := asRows_some hz
              simp at ht; obtain ⟨rfl, rfl⟩ := ht
              have hn' := hm n _ (by simp [Upd.names]) hn
              obtain ⟨cx1, h1, h2, h3, h4, h6, h7⟩ := h.freeze2 hn' (hwr n hw) nx
              refine ⟨cx1, [], h1, h2, h3, ?_, fun b hb => (by cases hb), fun m hm => h6 m (by simpa [Upd.names] using hm)⟩
              unfold Took; rw [if_neg hd]
              exact ⟨(hv.2.1 (by rw [hver]; exact (h.ob n _ hn').1)).1.mono h7 (fun _ _ => rfl), rfl⟩
            · cases ht
          · cases ht
        · cases ht
    · cases ht
  all_goals cases ht
end
end Go.Sh

namespace Go.Sh
open Go Go.RowKit

/-- of the heap that was looked at, what has not been given up yet still stands -/
structure Ok (Hm H : Heap) (done : List Nat) : Prop where
  out : ∀ n o, n ∉ done → Hm n = some o → H n = some o
  vec : ∀ n ∈ done, ∀ E e xs, Hm n ≠ some (.fro E e xs)

theorem Ok.fro {Hm H : Heap} {done : List Nat} (h : Ok Hm H done) (n : Nat) (Et : TypeId) (e : Ty) (xs : List e.den) (hn : Hm n = some (.fro Et e xs)) : H n = some (.fro Et e xs) :=
  h.out n _ (fun hd => h.vec n hd _ _ _ hn) hn

theorem Ok.upd [Laid] {Hm H : Heap} {done : List Nat} (h : Ok Hm H done) {u : Upd} (hu : ∀ n ∈ Upd.names u, ∃ E e d ver xs, Hm n = some (.vec E e d ver xs)) : Ok Hm (H.upd u) (done ++ Upd.names u) where
  out n o hn hm := by
    simp only [List.mem_append, not_or] at hn
    rw [Heap.upd_other H u hn.2]; exact h.out n o hn.1 hm
  vec n hn Et e xs hm := by
    rcases List.mem_append.1 hn with hn | hn
    · exact h.vec n hn Et e xs hm
    · obtain ⟨_, _, _, _, _, hv⟩ := hu n hn
      rw [hm] at hv; cases hv

theorem LV.take_names {Hm : Heap} {wr : Nat → Bool} {deep : Bool} {Et : TypeId} {e : Ty} {c : LV} {xs : List e.den} {u : Upd} (ht : c.take Hm wr deep Et e = some (xs, u)) :
    ∀ n ∈ Upd.names u, (∃ E e d ver xs, Hm n = some (.vec E e d ver xs)) ∧ n ∈ c.names := by
  cases c <;> simp only [LV.take] at ht
  case nil => simp at ht; obtain ⟨_, rfl⟩ := ht; simp [Upd.names]
  case sl =>
    split at ht
    · cases ht
    · split at ht
      · simp at ht; obtain ⟨_, rfl⟩ := ht; simp [Upd.names]
      · cases ht
  case ref n =>
    split at ht
    · rename_i E' e' d ver ys hn
      split at ht
      · split at ht
        · split at ht
          · split at ht
            · simp at ht; obtain ⟨_, rfl⟩ := ht
              intro m hm; simp [Upd.names] at hm; subst hm; exact ⟨⟨_, _, _, _, _, hn⟩, by simp [LV.names]⟩
            · cases ht
          · simp at ht; obtain ⟨_, rfl⟩ := ht
            intro m hm; simp [Upd.names] at hm; subst hm; exact ⟨⟨_, _, _, _, _, hn⟩, by simp [LV.names]⟩
        · cases ht
      · cases ht
    · split at ht
      · cases ht
      · split at ht
        · simp at ht; obtain ⟨_, rfl⟩ := ht; simp [Upd.names]
        · cases ht
    · cases ht
  case sub n lo hi =>
    split at ht
    · rename_i E' e' d ver ys hn
      split at ht
      · cases ht
      · split at ht
        · split at ht
          · simp at ht; obtain ⟨_, rfl⟩ := ht
            intro m hm; simp [Upd.names] at hm; subst hm; exact ⟨⟨_, _, _, _, _, hn⟩, by simp [LV.names]⟩
          · cases ht
        · cases ht
    · split at ht
      · cases ht
      · split at ht
        · simp at ht; obtain ⟨_, rfl⟩ := ht; simp [Upd.names]
        · cases ht
    · cases ht
  case dsl n ver i off E' e' ys =>
    split at ht
    · rename_i T t d ver' xs hn
      split at ht
      · cases ht
      · split at ht
        · split at ht
          · split at ht
            · simp at ht; obtain ⟨_, rfl⟩ := ht
              intro m hm; simp [Upd.names] at hm; subst hm; exact ⟨⟨_, _, _, _, _, hn⟩, by simp [LV.names]⟩
            · cases ht
          · cases ht
        · cases ht
    · cases ht
  all_goals cases ht

theorem Ty.take_names [Laid] {Hm : Heap} {wr : Nat → Bool} {deep : Bool} : ∀ {t : Ty} {cs r : List LV} {x : t.den} {u : Upd}, t.take Hm wr deep cs = some (x, r, u) →
    ∀ n ∈ Upd.names u, ∃ E e d ver xs, Hm n = some (.vec E e d ver xs)
  | .int _, cs, r, x, u, h => by
    cases cs with
    | nil => simp [Ty.take] at h
    | cons c cs => cases c <;> simp [Ty.take] at h; obtain ⟨_, _, _, rfl⟩ := h; simp [Upd.names]
  | .bool, cs, r, x, u, h => by
    cases cs with
    | nil => simp [Ty.take] at h
    | cons c cs => cases c <;> simp [Ty.take] at h; obtain ⟨_, _, rfl⟩ := h; simp [Upd.names]
  | .str, cs, r, x, u, h => by
    cases cs with
    | nil => simp [Ty.take] at h
    | cons c cs => cases c <;> simp [Ty.take] at h; obtain ⟨_, _, rfl⟩ := h; simp [Upd.names]
  | .pair a b, cs, r, x, u, h => by
    simp only [Ty.take] at h
    split at h
    · rename_i h1
      split at h
      · rename_i h2
        simp at h; obtain ⟨_, _, rfl⟩ := h
        intro n hn
        simp only [Upd.names, List.map_append, List.mem_append] at hn
        exact hn.elim (Ty.take_names h1 n) (Ty.take_names h2 n)
      · cases h
    · cases h
  | .slice _ _, cs, r, x, u, h => by
    cases cs with
    | nil => simp [Ty.take] at h
    | cons c cs =>
      simp only [Ty.take] at h
      split at h
      · rename_i h1; simp at h; obtain ⟨_, _, rfl⟩ := h
        exact fun n hn => (LV.take_names h1 n hn).1
      · cases h

section
variable {cx cx' : Cx} {w w' : World} {G : Base} {N N' nx n' : Nat} {H H' : Heap}

/-- what was lent before it was taken lies in the feet of what stood -/
def Came (H : Heap) (cx : Cx) (ns bs : List Nat) : Prop := ∀ b ∈ bs, ∃ n o, n ∈ ns ∧ H n = some o ∧ b ∈ (cx.μ n).foot

theorem Came.gv {H1 : Heap} {cx1 : Cx} {ns bs : List Nat} (g : Gv H cx H1 cx1) (h : Came H1 cx1 ns bs) : Came H cx ns bs := fun b hb => by
  obtain ⟨n, o, hm, hn, hf⟩ := h b hb
  obtain ⟨⟨o', hn'⟩, hf'⟩ := g.feet n o hn
  exact ⟨n, o', hm, hn', hf' b hf⟩

theorem Came.mono {ns ms bs : List Nat} (h : Came H cx ns bs) (hm : ∀ n ∈ ns, n ∈ ms) : Came H cx ms bs := fun b hb => by
  obtain ⟨n, o, hn, r⟩ := h b hb
  exact ⟨n, o, hm n hn, r⟩

theorem Free.came {ns bs bs' : List Nat} (h : Free G H cx w bs) (h' : Came H cx ns bs') : ∀ b ∈ bs, b ∉ bs' := fun b hb hb' => by
  obtain ⟨n, o, _, hn, hf⟩ := h' b hb'
  exact (h b hb).2.2.2 n o hn hf

theorem Ty.take_sound [Laid] {Hm : Heap} {wr : Nat → Bool} {deep : Bool} (hwr : ∀ n, wr n = true → G.nio ≤ n) (nx : Nat) : ∀ {t : Ty} {cs r : List LV} {vs : List Value} {x : t.den} {u : Upd} {H : Heap} {cx : Cx} {done : List Nat},
    RH G N H cx w → Ok Hm H done → t.take Hm wr deep cs = some (x, r, u) → (∀ n ∈ Upd.names u, n ∉ done) → (Upd.names u).Nodup → All2 (VL cx w) cs vs →
    ∃ cx1 v1 v2 bs, vs = v1 ++ v2 ∧ RH G N (H.upd u) cx1 w ∧ Tr nx nx cx w cx1 w ∧ Gv H cx (H.upd u) cx1 ∧ Took G (H.upd u) cx1 w deep t v1 x bs ∧ Came H cx (Upd.names u) bs ∧ Ok Hm (H.upd u) (done ++ Upd.names u) ∧ All2 (VL cx1 w) r v2 ∧ (∀ m, m ∉ Upd.names u → cx1.μ m = cx.μ m)
  | .int k, cs, r, vs, x, u, H, cx, done, h, ho, ht, hd, hnd, hv => by
    cases cs with
    | nil => simp [Ty.take] at ht
    | cons c cs => cases vs with
      | nil => exact hv.elim
      | cons v vs =>
        cases c <;> simp [Ty.take] at ht
        obtain ⟨rfl, rfl, rfl, rfl⟩ := ht
        refine ⟨cx, [v], vs, [], rfl, h, Tr.refl _ _ _, Gv.refl _ _, ?_, fun b hb => (by cases hb), by simpa [Upd.names, Heap.upd] using ho, hv.2, fun _ _ => rfl⟩
        unfold Took; split
        · exact ⟨⟨by rw [hv.1], rfl⟩, Free.nil, List.nodup_nil⟩
        · exact ⟨by rw [Rd, hv.1], rfl⟩
  | .bool, cs, r, vs, x, u, H, cx, done, h, ho, ht, hd, hnd, hv => by
    cases cs with
    | nil => simp [Ty.take] at ht
    | cons c cs => cases vs with
      | nil => exact hv.elim
      | cons v vs =>
        cases c <;> simp [Ty.take] at ht
        obtain ⟨rfl, rfl, rfl⟩ := ht
        refine ⟨cx, [v], vs, [], rfl, h, Tr.refl _ _ _, Gv.refl _ _, ?_, fun b hb => (by cases hb), by simpa [Upd.names, Heap.upd] using ho, hv.2, fun _ _ => rfl⟩
        unfold Took; split
        · exact ⟨⟨by rw [hv.1], rfl⟩, Free.nil, List.nodup_nil⟩
        · exact ⟨by rw [Rd, hv.1], rfl⟩
  | .str, cs, r, vs, x, u, H, cx, done, h, ho, ht, hd, hnd, hv => by
    cases cs with
    | nil => simp [Ty.take] at ht
    | cons c cs => cases vs with
      | nil => exact hv.elim
      | cons v vs =>
        cases c <;> simp [Ty.take] at ht
        obtain ⟨rfl, rfl, rfl⟩ := ht
        refine ⟨cx, [v], vs, [], rfl, h, Tr.refl _ _ _, Gv.refl _ _, ?_, fun b hb => (by cases hb), by simpa [Upd.names, Heap.upd] using ho, hv.2, fun _ _ => rfl⟩
        unfold Took; split
        · exact ⟨⟨by rw [hv.1], rfl⟩, Free.nil, List.nodup_nil⟩
        · exact ⟨by rw [Rd, hv.1], rfl⟩
  | .pair a b, cs, r, vs, x, u, H, cx, done, h, ho, ht, hd, hnd, hv => by
    simp only [Ty.take] at ht
    split at ht
    · rename_i y r1 u1 h1
      split at ht
      · rename_i z r2 u2 h2
        simp at ht; obtain ⟨rfl, rfl, rfl⟩ := ht
        have en : Upd.names (u1 ++ u2) = Upd.names u1 ++ Upd.names u2 := by simp [Upd.names]
        rw [en] at hd hnd
        rw [List.nodup_append] at hnd
        obtain ⟨cx1, v1, v2, bs, rfl, a1, a2, a3, a4, a5, a6, a7, a8⟩ := Ty.take_sound hwr nx h ho h1 (fun n hn => hd n (List.mem_append_left _ hn)) hnd.1 hv
        obtain ⟨cx2, v3, v4, bs', rfl, b1, b2, b3, b4, b5, b6, b7, b8⟩ := Ty.take_sound hwr nx a1 a6 h2 (fun n hn => by
          rw [List.mem_append, not_or]; exact ⟨hd n (List.mem_append_right _ hn), fun hn' => hnd.2.2 n hn' n hn rfl⟩) hnd.2.1 a7
        rw [Heap.upd_append, en]
        refine ⟨cx2, v1 ++ v3, v4, bs ++ bs', by simp, b1, a2.trans b2 (Nat.le_refl _) (Nat.le_refl _), a3.trans b3, ?_, ?_, by rw [← List.append_assoc]; exact b6, b7, fun m hm => by
          simp only [List.mem_append, not_or] at hm
          rw [b8 m hm.2, a8 m hm.1]⟩
        · have a4' := a4.gv b3 b2.S
          unfold Took at *
          split
          · rename_i hdp
            simp only [hdp, if_true] at a4 a4' b4
            refine ⟨⟨v1, v3, bs, bs', rfl, rfl, a4'.1, b4.1⟩, a4'.2.1.append b4.2.1, ?_⟩
            rw [List.nodup_append]
            exact ⟨a4.2.2, b4.2.2, fun p hp q hq hpq => a4.2.1.came b5 p hp (hpq ▸ hq)⟩
          · rename_i hdp
            simp only [hdp] at a4' b4
            exact ⟨⟨v1, v3, rfl, a4'.1, b4.1⟩, by rw [a4'.2, b4.2]; rfl⟩
        · intro q hq
          rcases List.mem_append.1 hq with hq | hq
          · exact (a5.mono fun n hn => List.mem_append_left _ hn) q hq
          · exact ((b5.gv a3).mono fun n hn => List.mem_append_right _ hn) q hq
      · cases ht
    · cases ht
  | .slice Et e, cs, r, vs, x, u, H, cx, done, h, ho, ht, hd, hnd, hv => by
    cases cs with
    | nil => simp [Ty.take] at ht
    | cons c cs => cases vs with
      | nil => exact hv.elim
      | cons v vs =>
        simp only [Ty.take] at ht
        split at ht
        · rename_i xs u' h1
          simp at ht; obtain ⟨rfl, rfl, rfl⟩ := ht
          obtain ⟨cx1, bs, a1, a2, a3, a4, a5, a6⟩ := LV.take_sound h (fun n o hn => ho.out n o (hd n hn)) ho.fro hwr h1 hv.1 nx
          refine ⟨cx1, [v], vs, bs, rfl, a1, a2, a3, a4, a5, ho.upd fun n hn => (LV.take_names h1 n hn).1, ?_, a6⟩
          exact VL.trs a2 (fun c _ m _ => by omega) hv.2
        · cases ht
end
end Go.Sh

namespace Go.Sh
open Go Go.RowKit

section
variable {cx cx' : Cx} {w w' : World} {G : Base} {N N' nx n' : Nat} {H H' : Heap} {P : Program} {E : Env}

theorem VL.one {c : LV} {v : Value} (h : VL cx w c v) : v.oneCell' = true := by
  cases c with
  | int | bool | str => rw [h]; rfl
  | nil => obtain ⟨A, rfl⟩ := h; rfl
  | sl => obtain ⟨A, cap, e, _⟩ := h; simp at e; rw [e]; rfl
  | ref => obtain ⟨_, A, l, c, rfl⟩ := h; rfl
  | sub => obtain ⟨_, _, _, A, cap, A', _, _, rfl, _⟩ := h; rfl
  | dsl => obtain ⟨_, _, _, A, c, rfl⟩ := h; rfl
  | ptr => obtain ⟨g, _, rfl⟩ := h; rfl
  | vptr => obtain ⟨g, cap, _, _, _, rfl⟩ := h; rfl
  | cptr => obtain ⟨b, o, vs, rfl, _⟩ := h; rfl
  | fn => obtain ⟨vs, rfl, _⟩ := h; rfl
  | isnil => obtain ⟨b, rfl, _⟩ := h; rfl

theorem All2.ones [Laid] : ∀ {cs : List LV} {vs : List Value}, All2 (VL cx w) cs vs → ∀ v ∈ vs, v.oneCell' = true
  | [], [], _, v, hv => by cases hv
  | c :: cs, u :: vs, h, v, hv => by
    rcases List.mem_cons.1 hv with rfl | hv
    · exact h.1.one
    · exact All2.ones h.2 v hv

/-- one world after another, as far as the call is concerned -/
structure Stays (w w' : World) (fs : List Nat) : Prop where
  os : w'.os = w.os
  tape : w'.tape = w.tape
  output : w'.output = w.output
  size : w.heap.size ≤ w'.heap.size
  same : ∀ b, b < w.heap.size → b ∉ fs → Same w w' b

theorem Stays.alloc (w : World) (o : Obj) : Stays w (w.alloc o) [] := ⟨rfl, rfl, rfl, by simp, fun b hb _ => heap_alloc_old w o b hb⟩

theorem Cx.at_self (cx : Cx) (n : Nat) (r : RO) : (cx.at n r).μ n = r := if_pos rfl
theorem Cx.at_other (cx : Cx) (n m : Nat) (r : RO) (h : m ≠ n) : (cx.at n r).μ m = cx.μ m := if_neg h

/-- a new row or box -/
theorem RH.add [Laid] (h : RH G N H cx w) {fs : List Nat} (hf : Free G H cx w fs) (nx : Nat) (hnx : nx < N') (hN : N ≤ N') (hnone : ∀ o, H nx ≠ some o) (o : Ob) (r : RO) (hst : Stays w w' fs)
    (hfoot : ∀ b ∈ r.foot, b ∈ fs ∨ (w.heap.size ≤ b ∧ b < w'.heap.size)) (hnd : r.foot.Nodup) (hold : ∀ m o, H m = some o → o.old nx (nx + 1))
    (hob : Tr nx (nx + 1) cx w (cx.at nx r) w' → ObR (cx.at nx r) w' r o) :
    RH G N' (fun m => if m = nx then some o else H m) (cx.at nx r) w' ∧ Tr nx (nx + 1) cx w (cx.at nx r) w' := by
  have hft : ∀ m o', H m = some o' → ∀ b ∈ (cx.μ m).foot, Same w w' b := fun m o' hm b hb => by
    obtain ⟨_, h2, _⟩ := h.mine m o' b hm hb
    exact hst.same b h2 fun hbf => (hf b hbf).2.2.2 m o' hm hb
  have hSw : ∀ b, cx.S b → Same w w' b := fun b hb => hst.same b (h.ss b hb) fun hbf => (hf b hbf).2.2.1 hb
  have htr : Tr nx (nx + 1) cx w (cx.at nx r) w' := ⟨fun b hb => hb, hSw, fun m hm => by
    have hne : m ≠ nx := by omega
    rw [Cx.at_other _ _ _ _ hne]
    refine ⟨rfl, rfl, rfl, Nat.le_refl _, fun _ => ⟨rfl, fun b hb => ?_⟩⟩
    cases hm : H m with
    | none => rw [h.dead m hm] at hb; cases hb
    | some o' => exact hft m o' hm b hb⟩
  refine ⟨?_, htr⟩
  refine h.step (fun m => m = nx) hN (fun m hm => ⟨if_neg hm, Cx.at_other _ _ _ _ hm⟩) (fun m o' _ hm => hft m o' hm) ?_ ?_ ?_ ?_ ?_ ?_ hst.os hst.tape hst.output hst.size ?_ htr fun m o' _ hm => hold m o' hm
  · rintro m o' rfl ho
    simp at ho; subst ho
    rw [Cx.at_self]
    refine ⟨hob htr, hnx, hnd, fun b hb => ?_⟩
    rcases hfoot b hb with hb | ⟨h1, h2⟩
    · obtain ⟨a1, a2, a3, _⟩ := hf b hb
      exact ⟨.inl a1, Nat.lt_of_lt_of_le a2 hst.size, a3⟩
    · exact ⟨.inl (Nat.le_trans h.size h1), h2, fun hS => by have := h.ss b hS; omega⟩
  · rintro m rfl ho; simp at ho
  · rintro m k o1 o2 rfl h1 hne h2 b hb hb'
    rw [Cx.at_self] at hb
    rcases hfoot b hb with hb | ⟨h3, h4⟩
    · exact (hf b hb).2.2.2 k o2 h2 hb'
    · have := (h.mine k o2 b h2 hb').2.1; omega
  · rintro m k o1 o2 rfl rfl _ _ hne; exact absurd rfl hne
  · rintro m o' b hm ho hb hS; exact (h.mine m o' b ho hb).2.2 hS
  · rintro b hb; exact ⟨Nat.lt_of_lt_of_le (h.ss b hb) hst.size, h.sg b hb⟩
  · intro b hb hl
    exact hst.same b (Nat.lt_of_lt_of_le hb h.size) fun hbf => by have := (hf b hbf).1; omega
end
end Go.Sh

namespace Go.Sh
open Go Go.RowKit

section
variable {cx cx' : Cx} {w w' : World} {G : Base} {M M' nx n' : Nat} {H H' Hm : Heap} {P : Program} {E : Env}

/-- what an operation leaves: the value, rows and boxes, memory -/
def After [Laid] (G : Base) (M' : Nat) (H' : Heap) (nx n' : Nat) (cx : Cx) (w : World) (sv : SV) (v : Value) (w' : World) : Prop :=
  ∃ cx', VR cx' w' sv v ∧ RH G M' H' cx' w' ∧ Tr nx n' cx w cx' w'

theorem zero_sound : ∀ {t : Ty} {cx : Cx} {w : World}, All2 (VL cx w) t.zero t.zv
  | .int _, _, _ => ⟨rfl, trivial⟩
  | .bool, _, _ => ⟨rfl, trivial⟩
  | .str, _, _ => ⟨rfl, trivial⟩
  | .pair a b, _, _ => (zero_sound (t := a)).append (zero_sound (t := b))
  | .slice _ _, _, _ => ⟨⟨none, rfl⟩, trivial⟩

theorem zv_size : ∀ t : Ty, t.zv.length = t.size
  | .int _ | .bool | .str | .slice _ _ => rfl
  | .pair a b => by simp [Ty.zv, Ty.size, zv_size a, zv_size b]

theorem zv_el (w : World) (S : Nat → Prop) (d : Bool) : ∀ t : Ty, El w S d t t.zv t.dflt [] := by
  have h1 : ∀ t : Ty, Ow w t t.zv t.dflt [] := by
    intro t
    induction t with
    | int | bool | str => exact ⟨rfl, rfl⟩
    | pair a b ha hb => exact ⟨_, _, [], [], rfl, rfl, ha, hb⟩
    | slice Et e => exact ⟨_, rfl, .inl ⟨rfl, ⟨none, rfl⟩, rfl⟩⟩
  intro t
  unfold El; split
  · exact h1 t
  · exact ⟨(h1 t).rd fun b hb => (by cases hb), rfl⟩

/-- a box: its cells in a new block -/
theorem new_box [Laid] (h : RH G M H cx w) (hnx : nx < M') (hN : M ≤ M') (hnone : ∀ o, H nx ≠ some o) (hold : ∀ m o, H m = some o → o.old nx (nx + 1)) {cs : List LV} {vs : List Value} (T : TypeId) (hv : All2 (VL cx w) cs vs) (hcs : ∀ c ∈ cs, c.old nx (nx + 1)) :
    After G M' (fun m => if m = nx then some (.box cs) else H m) nx (nx + 1) cx w (.lf (.ptr nx 0)) (.pointer (some ⟨w.heap.size, 0, none⟩)) (w.alloc (.cells vs.toArray T)) := by
  obtain ⟨h1, h2⟩ := h.add (fs := []) Free.nil nx hnx hN hnone (.box cs) ⟨.pointer (some ⟨w.heap.size, 0, none⟩), 0, 0, 0, [w.heap.size]⟩ (Stays.alloc w (.cells vs.toArray T))
    (fun b hb => by simp at hb; subst hb; exact .inr ⟨Nat.le_refl _, by simp⟩) (by simp) hold fun htr =>
      ⟨w.heap.size, vs.toArray, T, rfl, rfl, heap_alloc_new w _, by simpa using VL.trs htr hcs hv⟩
  exact ⟨_, ⟨w.heap.size, by rw [Cx.at_self], rfl⟩, h1, h2⟩

theorem run_box (T : TypeId) (v : Value) : (Instr.box T v).run P w = .ok (.pointer (some ⟨w.heap.size, 0, none⟩)) (w.alloc (.cells v.cells T)) := by
  simp [Instr.box, newVar, newRow]

theorem run_alloc (hE : TabOk P E) {t : TypeId} {ti : TI} {ty : Ty} (ht : E.ti t = some ti) (hty : ti.ty = some ty) : (Instr.alloc t true (.tuple #[])).run P w = .ok (.pointer (some ⟨w.heap.size, 0, none⟩)) (w.alloc (.cells ty.zv.toArray t)) := by
  obtain ⟨f, hf, _, _, _, h4⟩ := hE.info ht
  obtain ⟨_, z, hz, hzc, _⟩ := h4 ty hty
  have : z.cells = ty.zv.toArray := by rw [← hzc]
  simp [Instr.alloc, zeroValue, typeInfo, hf, hz, newVar, newRow, this]

/-- the cells of a value -/
theorem cells_sound [Laid] {sv : SV} {v : Value} {cs : List LV} (hv : VR cx w sv v) (hc : sv.cells = some cs) : ∃ vs, v.cells = vs.toArray ∧ All2 (VL cx w) cs vs := by
  cases sv with
  | top | undef | tup => simp [SV.cells] at hc
  | lf c =>
    simp [SV.cells] at hc; subst hc
    refine ⟨[v], ?_, hv, trivial⟩
    have := VL.one hv
    cases v <;> simp [Value.oneCell'] at this <;> rfl
  | agg cs' =>
    simp [SV.cells] at hc; subst hc
    obtain ⟨vs, rfl, h⟩ := hv
    exact ⟨vs, rfl, h⟩

theorem cells_old {sv : SV} {cs : List LV} (hc : sv.cells = some cs) (ho : sv.old nx n') : ∀ c ∈ cs, c.old nx n' := by
  cases sv with
  | top | undef | tup => simp [SV.cells] at hc
  | lf c => simp [SV.cells] at hc; subst hc; intro c' hc'; simp at hc'; subst hc'; exact ho
  | agg cs' => simp [SV.cells] at hc; subst hc; exact fun c hc m hm => ho m (List.mem_flatMap.2 ⟨c, hc, hm⟩)

/-- a new row, over a new block and what was given up for it -/
theorem new_row [Laid] (h : RH G M H cx w) (hnx : nx < M') (hN : M ≤ M') (hnone : ∀ o, H nx ≠ some o) (hold : ∀ m o, H m = some o → o.old nx (nx + 1)) {fs : List Nat} (hf : Free G H cx w fs)
    {Et : TypeId} {e : Ty} {d : Bool} {xs : List e.den} {v : Value} {foot : List Nat} (hst : Stays w w' fs) (hfoot : ∀ b ∈ foot, b ∈ fs ∨ (w.heap.size ≤ b ∧ b < w'.heap.size)) (hnd : foot.Nodup)
    (hrow : Row1 w' Et e.size (El w' cx.S d e) v xs foot) :
    After G M' (fun m => if m = nx then some (.vec Et e d 0 xs) else H m) nx (nx + 1) cx w (.lf (.ref nx)) v w' := by
  obtain ⟨h1, h2⟩ := h.add hf nx hnx hN hnone (.vec Et e d 0 xs) ⟨v, xs.length, e.size, 0, foot⟩ hst hfoot hnd hold fun htr => ⟨rfl, rfl, rfl, hrow⟩
  obtain ⟨A, cap, e1, _⟩ := hrow.slice
  exact ⟨_, ⟨by rw [Cx.at_self], A, _, cap, e1⟩, h1, h2⟩

theorem All3.replicate {α β γ : Type} {r : α → β → γ → Prop} {a : α} {b : β} {c : γ} (h : r a b c) : ∀ n, All3 r (List.replicate n a) (List.replicate n b) (List.replicate n c)
  | 0 => trivial
  | n + 1 => ⟨h, All3.replicate h n⟩

theorem flatten_replicate_cells (z : List Value) (n : Nat) (hz : 0 < z.length) : (madeCells z.toArray (n * z.length)).toList = (List.replicate n z).flatten := by
  apply List.ext_getElem?
  intro j
  simp only [madeCells, Array.toList_map, Array.toList_range]
  by_cases hj : j < n * z.length
  · have hd : j / z.length < n := Nat.div_lt_of_lt_mul (by rw [Nat.mul_comm]; exact hj)
    have hm : j % z.length < z.length := Nat.mod_lt _ hz
    rw [List.getElem?_map, List.getElem?_range hj]
    have := flatten_get hz (List.replicate n z) (fun c hc => by rw [List.eq_of_mem_replicate hc]) (j / z.length) z (by rw [List.getElem?_replicate, if_pos hd]) (j % z.length) z[j % z.length] (List.getElem?_eq_getElem hm)
    rw [Nat.mul_comm, Nat.div_add_mod] at this
    rw [this]
    simp [hm]
  · rw [List.getElem?_eq_none (by simpa using hj), List.getElem?_eq_none (by simp; omega)]

theorem makeSV_is [Laid] (hE : TabOk P E) (h : RH G M H cx w) {dst : Option Tmp} {t : TypeId} {n : SV} {nv : Value} (hv : VR cx w n nv) {R : Type} {r : R} {K : SV → Upd → Nat → Option R} (hh : makeSV E dst t n nx K = some r) :
    ∃ sv u, (∀ {R : Type} (K : SV → Upd → Nat → Option R), makeSV E dst t n nx K = K sv u (nx + 1)) ∧ ∀ {M' : Nat}, nx < M' → M ≤ M' → (∀ o, H nx ≠ some o) → (∀ m o, H m = some o → o.old nx (nx + 1)) → ∃ v w', (Instr.makeSlice t nv nv).run P w = .ok v w' ∧ After G M' (H.upd u) nx (nx + 1) cx w sv v w' := by
  unfold makeSV at hh
  split at hh
  · rename_i el ei e n hel
    cases hv
    obtain ⟨h0, hh⟩ := ite_some' hh
    obtain ⟨h1, hh⟩ := ite_some' hh
    obtain ⟨hu, hei, hty, hb0⟩ := hE.slice hel
    obtain ⟨f, hf, hsz, hby, _, h4⟩ := hE.info hei
    obtain ⟨hs, z, hz, hzc, _⟩ := h4 e hty
    have h1' : n * ei.bytes ≤ 140737488355328 := h1
    refine ⟨.lf (.ref nx), [(nx, some (.vec el e (deepAt E dst) 0 (N.rep n e.dflt)))], fun K => by simp only [makeSV, hel]; rw [ite_pos h0, ite_pos h1], ?_⟩
    intro M' hnx hN hnone hold
    have hcap : n ≤ 140737488355328 := by
      have hb1 : (1 : Int) ≤ ei.bytes := by omega
      have := Int.mul_le_mul_of_nonneg_left hb1 h0
      omega
    have hr := run_make (P := P) w t el f z hu hf hz .i64 .i64 n n h0 (Int.le_refl _) (by rw [hby, Int.mul_comm]; omega) (by omega)
    refine ⟨_, _, hr, ?_⟩
    have hzl : z.cells.toList.length = e.size := by rw [hzc, zv_size]
    have hcells : (madeCells z.cells (n.toNat * f.size)).toList = (List.replicate n.toNat e.zv).flatten := by
      rw [hsz, ← hs, ← zv_size, ← flatten_replicate_cells _ _ (by rw [zv_size]; exact e.size_pos)]
      congr 2
      rw [← hzc]
    refine new_row h hnx hN hnone hold (fs := []) Free.nil (Stays.alloc w _) (foot := w.heap.size :: (List.replicate n.toNat ([] : List Nat)).flatten) (fun b hb => ?_) ?_ (.inr ⟨w.heap.size, n.toNat, _, List.replicate n.toNat e.zv, List.replicate n.toNat [], ?_, heap_alloc_new w _, ?_, ?_, ?_, ?_, rfl, ?_⟩)
    · simp at hb; subst hb; exact .inr ⟨Nat.le_refl _, by simp⟩
    · simp
    · simp [N.rep]
    · simp [N.rep]
    · unfold maxLen; omega
    · rw [size_madeCells, hsz, hs]
    · rw [hcells, List.take_of_length_le]
      rw [← hcells]; simp [size_madeCells, N.rep, hsz, hs]
    · unfold N.rep; exact All3.replicate (zv_el _ _ _ _) _
  · cases hh
end
end Go.Sh

namespace Go.Sh
open Go Go.RowKit

/-! ## Stores -/
/-- cells o, o + 1, .. written over by those that stand at lo, lo + 1, .. -/
def over (lo : Nat) (vals : List Value) : Nat → List Value → List Value
  | _, [] => []
  | o, v :: c => (if lo ≤ o ∧ o < lo + vals.length then vals.getD (o - lo) v else v) :: over lo vals (o + 1) c

theorem over_length (lo : Nat) (vals : List Value) : ∀ (o : Nat) (c : List Value), (over lo vals o c).length = c.length
  | _, [] => rfl
  | o, v :: c => by simp [over, over_length lo vals (o + 1) c]

theorem over_append (lo : Nat) (vals : List Value) : ∀ (o : Nat) (c d : List Value), over lo vals o (c ++ d) = over lo vals o c ++ over lo vals (o + c.length) d
  | o, [], d => by simp [over]
  | o, v :: c, d => by
    simp only [List.cons_append, over, over_append lo vals (o + 1) c d, List.length_cons]
    rw [show o + 1 + c.length = o + (c.length + 1) by omega]

theorem over_get (lo : Nat) (vals : List Value) : ∀ (o : Nat) (c : List Value) (j : Nat), (over lo vals o c)[j]? = if lo ≤ o + j ∧ o + j < lo + vals.length ∧ j < c.length then vals[o + j - lo]? else c[j]?
  | o, [], j => by simp [over]
  | o, v :: c, 0 => by
    simp only [over, List.getElem?_cons_zero, Nat.add_zero, List.length_cons]
    split
    · rename_i h
      rw [if_pos ⟨h.1, h.2, by omega⟩, List.getD_eq_getElem?_getD, List.getElem?_eq_getElem (by omega)]
      rfl
    · rename_i h
      rw [if_neg (by omega)]
  | o, v :: c, j + 1 => by
    simp only [over, List.getElem?_cons_succ, over_get lo vals (o + 1) c j, List.length_cons]
    rw [show o + 1 + j = o + (j + 1) by omega]
    split
    · rename_i h; rw [if_pos ⟨h.1, h.2.1, by omega⟩]
    · rename_i h; rw [if_neg (by omega)]

theorem over_zero [Laid] (lo : Nat) (vals c : List Value) (h : lo + vals.length ≤ c.length) : over lo vals 0 c = c.take lo ++ vals ++ c.drop (lo + vals.length) := by
  apply List.ext_getElem?
  intro j
  rw [over_get, Nat.zero_add]
  split
  · rename_i h1
    rw [List.getElem?_append_left (by simp; omega), List.getElem?_append_right (by simp; omega)]
    simp; congr 1; omega
  · rename_i h1
    by_cases h2 : j < lo
    · rw [List.append_assoc, List.getElem?_append_left (by simp; omega), List.getElem?_take, if_pos h2]
    · rw [List.getElem?_append_right (by simp; omega), List.getElem?_drop]
      simp only [List.length_append, List.length_take]
      by_cases h3 : j < c.length
      · congr 1; omega
      · rw [List.getElem?_eq_none (by omega), List.getElem?_eq_none (by omega)]

section
variable {cx cx' : Cx} {w w' : World} {G : Base} {M M' nx n' : Nat} {H H' Hm : Heap} {P : Program} {E : Env}

theorem span_one {cs : List LV} {o : Nat} (h : o < cs.length) : span cs o 1 = [cs[o]] := by
  unfold span; rw [List.drop_eq_getElem_cons h]; rfl

/-- new cells of an element: those that are written are taken, the others stay -/
theorem Ty.put_sound [Laid] {wr : Nat → Bool} {deep : Bool} (hwr : ∀ n, wr n = true → G.nio ≤ n) (nx lo : Nat) {vs : List LV} {vals : List Value} : ∀ {t : Ty} {x y : t.den} {u : Upd} {o : Nat} {c : List Value} {bs : List Nat} {H : Heap} {cx : Cx} {done : List Nat},
    RH G M H cx w → Ok Hm H done → t.put Hm wr deep x o lo vs = some (y, u) → (∀ n ∈ Upd.names u, n ∉ done) → (Upd.names u).Nodup → All2 (VL cx w) vs vals → El w cx.S deep t c x bs → bs.Nodup → (∀ b ∈ bs, ¬ Came H cx (Upd.names u) [b]) →
    ∃ cx1 bs1 tk, RH G M (H.upd u) cx1 w ∧ Tr nx nx cx w cx1 w ∧ Gv H cx (H.upd u) cx1 ∧ El w cx1.S deep t (over lo vals o c) y bs1 ∧ bs1.Nodup ∧ (∀ b ∈ bs1, b ∈ bs ∨ b ∈ tk) ∧ Free G (H.upd u) cx1 w tk ∧ Came H cx (Upd.names u) tk ∧ Ok Hm (H.upd u) (done ++ Upd.names u) ∧ (∀ m, m ∉ Upd.names u → cx1.μ m = cx.μ m) := by
  intro t
  induction t with
  | pair a b iha ihb =>
    intro x y u o c bs H cx done h ho hp hd hnd hv hE hbs hcm
    simp only [Ty.put] at hp
    split at hp
    · rename_i p u1 h1
      split at hp
      · rename_i q u2 h2
        simp at hp; obtain ⟨rfl, rfl⟩ := hp
        have en : Upd.names (u1 ++ u2) = Upd.names u1 ++ Upd.names u2 := by simp [Upd.names]
        rw [en] at hd hnd hcm
        rw [List.nodup_append] at hnd
        -- the element's two parts
        obtain ⟨c1, c2, b1, b2, rfl, rfl, e1, e2⟩ : ∃ c1 c2 b1 b2, c = c1 ++ c2 ∧ bs = b1 ++ b2 ∧ El w cx.S deep a c1 x.1 b1 ∧ El w cx.S deep b c2 x.2 b2 := by
          unfold El at hE ⊢
          split at hE
          · rename_i hdp
            obtain ⟨c1, c2, b1, b2, e1, e2, e3, e4⟩ := hE
            exact ⟨c1, c2, b1, b2, e1, e2, by simp [hdp]; exact e3, by simp [hdp]; exact e4⟩
          · rename_i hdp
            obtain ⟨⟨c1, c2, e1, e3, e4⟩, e2⟩ := hE
            exact ⟨c1, c2, [], [], e1, e2, by simp [hdp]; exact e3, by simp [hdp]; exact e4⟩
        rw [List.nodup_append] at hbs
        obtain ⟨cx1, k1, t1, a1, a2, a3, a4, a4', a5, a6, a7, a8, a9⟩ := iha h ho h1 (fun n hn => hd n (List.mem_append_left _ hn)) hnd.1 hv e1 hbs.1 (fun b hb hc => hcm b (List.mem_append_left _ hb) (hc.mono fun n hn => List.mem_append_left _ hn))
        obtain ⟨cx2, k2, t2, f1, f2, f3, f4, f4', f5, f6, f7, f8, f9⟩ := ihb a1 a8 h2 (fun n hn => by
          rw [List.mem_append, not_or]; exact ⟨hd n (List.mem_append_right _ hn), fun hn' => hnd.2.2 n hn' n hn rfl⟩) hnd.2.1 (VL.trs a2 (fun c _ m _ => by omega) hv)
          (e2.mono a2.S (fun _ _ => rfl) (fun _ _ => rfl)) hbs.2.1 (fun b hb hc => hcm b (List.mem_append_right _ hb) ((hc.gv a3).mono fun n hn => List.mem_append_right _ hn))
        rw [Heap.upd_append, en]
        have ht1 : Came H cx (Upd.names u1 ++ Upd.names u2) t1 := a7.mono fun n hn => List.mem_append_left _ hn
        have ht2 : Came H cx (Upd.names u1 ++ Upd.names u2) t2 := (f7.gv a3).mono fun n hn => List.mem_append_right _ hn
        refine ⟨cx2, k1 ++ k2, t1 ++ t2, f1, a2.trans f2 (Nat.le_refl _) (Nat.le_refl _), a3.trans f3, ?_, ?_, ?_, (a6.gv f3).append f6, ?_, by rw [← List.append_assoc]; exact f8, fun m hm => by
          simp only [List.mem_append, not_or] at hm
          rw [f9 m hm.2, a9 m hm.1]⟩
        · rw [over_append]
          have hl1 : c1.length = a.size := e1.size
          rw [hl1]
          have a4s := a4.mono f2.S (fun _ _ => rfl) (fun _ _ => rfl)
          unfold El at a4s f4 ⊢
          split at f4
          · rename_i hdp
            simp only [hdp, if_true] at a4s ⊢
            exact ⟨_, _, k1, k2, rfl, rfl, a4s, f4⟩
          · rename_i hdp
            simp only [hdp] at a4s ⊢
            exact ⟨⟨_, _, rfl, a4s.1, f4.1⟩, by rw [a4s.2, f4.2]; rfl⟩
        · rw [List.nodup_append]
          refine ⟨a4', f4', fun p hp q hq hpq => ?_⟩
          subst hpq
          rcases a5 p hp with h3 | h3 <;> rcases f5 p hq with h4 | h4
          · exact hbs.2.2 p h3 p h4 rfl
          · exact hcm p (List.mem_append_left _ h3) fun b' hb' => by
              simp at hb'; subst hb'
              exact ht2 b' h4
          · exact hcm p (List.mem_append_right _ h4) fun b' hb' => by
              simp at hb'; subst hb'
              exact ht1 b' h3
          · exact a6.came f7 p h3 h4
        · intro b hb
          rcases List.mem_append.1 hb with hb | hb
          · exact (a5 b hb).imp (List.mem_append_left _) (List.mem_append_left _)
          · exact (f5 b hb).imp (List.mem_append_right _) (List.mem_append_right _)
        · intro b hb
          rcases List.mem_append.1 hb with hb | hb
          · exact ht1 b hb
          · exact ht2 b hb
      · cases hp
    · cases hp
  | _ =>
    intro x y u o c bs H cx done h ho hp hd hnd hv hE hbs hcm
    simp only [Ty.put] at hp
    have hc1 : c.length = 1 := hE.size
    obtain ⟨v0, rfl⟩ := List.length_eq_one_iff.1 hc1
    split at hp
    · rename_i hin
      simp only [Bool.and_eq_true, decide_eq_true_eq] at hin
      split at hp
      · rename_i z u' h1
        simp at hp; obtain ⟨rfl, rfl⟩ := hp
        have hlen := hv.len
        have hlt : o - lo < vs.length := by omega
        rw [span_one hlt] at h1
        obtain ⟨cx1, v1, v2, tk, e0, b1, b2, b3, b4, b5, b6, b7, b8⟩ := Ty.take_sound hwr nx h ho h1 hd hnd (vs := [vals[o - lo]'(by omega)]) ⟨hv.get (List.getElem?_eq_getElem hlt) (List.getElem?_eq_getElem _), trivial⟩
        have hov : over lo vals o [v0] = v1 := by
          have hs := b4.el.size
          have : v1 = [vals[o - lo]'(by omega)] := by
            cases v1 with
            | nil => simp [Ty.size] at hs
            | cons p v1 =>
              simp only [List.cons_append, List.cons.injEq] at e0
              have : v1 = [] := by
                cases v1 with
                | nil => rfl
                | cons _ _ => simp at e0
              rw [this, e0.1]
          rw [this]
          simp only [over]
          rw [if_pos ⟨hin.1, by omega⟩, List.getD_eq_getElem?_getD, List.getElem?_eq_getElem (by omega)]
          rfl
        refine ⟨cx1, tk, tk, b1, b2, b3, by rw [hov]; exact b4.el, b4.free.2, fun b hb => .inr hb, b4.free.1, b5, b6, b8⟩
      · cases hp
    · rename_i hin
      simp only [Bool.and_eq_true, decide_eq_true_eq] at hin
      simp at hp; obtain ⟨rfl, rfl⟩ := hp
      have hlen := hv.len
      have hov : over lo vals o [v0] = [v0] := by simp only [over]; rw [if_neg (by omega)]
      exact ⟨cx, bs, [], h, Tr.refl _ _ _, Gv.refl _ _, by rw [hov]; exact hE, hbs, fun b hb => .inl hb, Free.nil, fun b hb => (by cases hb), by simpa [Upd.names, Heap.upd] using ho, fun _ _ => rfl⟩
end
end Go.Sh

