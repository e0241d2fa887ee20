/- The native forms of the functions that FnExactHoldersOf reaches, and their pure laws: FnExactHoldersOf is true for every input of bounded parts. No condition beyond the bounds that every input keeps. -/
import Derived.Test.YthmpjemfgejccaaSh8
set_option linter.unusedVariables false
set_option maxRecDepth 100000
set_option maxHeartbeats 4000000
namespace Go.Sh
open Go
namespace N
def nostr : ByteArray := ByteArray.empty
def lit (l : List UInt8) : ByteArray := ⟨l.toArray⟩
def let_ {α R : Type} (x : α) (f : α → Option R) : Option R := f x
end N
namespace D
abbrev Library : Type := Int × (List Int) × Bool × Bool
noncomputable def laws_szIntS (x0 : List Int) (x1 : Int) : Option (Int) :=
  N.cond (N.lt (N.sub .i64 x1 (N.len x0)) 0)
    (some (-1))
    (some (N.sub .i64 x1 (N.len x0)))

noncomputable def laws_szLibrary (x0 : Library) (x1 : Int) : Option (Int) :=
  N.bind (laws_szIntS x0.2.1 x1) fun r1 =>
    N.cond (N.lt r1 0)
      (some (-1))
      (some r1)

noncomputable def laws_szLibraryS (x0 : List Library) (x1 : Int) : Option (Int) :=
  N.cond (N.lt (N.sub .i64 x1 (N.len x0)) 0)
    (some (-1))
    (
      loopF (fun (s1 : Int × Int) =>
          N.cond (N.lt s1.2 (N.len x0))
            (
              N.ite (0 ≤ s1.2)
                (
                  N.ite (s1.2 < N.len x0)
                    (
                      N.bind (laws_szLibrary (N.rd x0 s1.2 (0, [], false, false)) s1.1) fun r1 =>
                        N.cond (N.lt r1 0)
                          (some (.inr (-1)))
                          (some (.inl (r1, N.add .i64 s1.2 1))))
                    none)
                none)
            (some (.inr s1.1)))
        (N.sub .i64 x1 (N.len x0), 0))

noncomputable def laws_toIntS (x0 : List Int) : Option (List Int) :=
  N.ite (0 ≤ N.len x0)
    (
      N.ite (N.room (N.len x0) 8)
        (
          loopF (fun (s1 : Int × List Int) =>
              N.cond (N.lt s1.1 (N.len x0))
                (
                  N.ite (0 ≤ s1.1)
                    (
                      N.ite (s1.1 < N.len x0)
                        (
                          N.ite (0 ≤ s1.1)
                            (
                              N.ite (s1.1 < N.len s1.2)
                                (some (.inl (N.add .i64 s1.1 1, N.set s1.2 s1.1 (N.rd x0 s1.1 0))))
                                none)
                            none)
                        none)
                    none)
                (some (.inr s1.2)))
            (0, N.rep (N.len x0) 0))
        none)
    none

noncomputable def laws_toLibrary (x0 : Library) : Option (Int × (List Int) × Bool × Bool) :=
  N.bind (laws_toIntS x0.2.1) fun r1 =>
    some (x0.1, r1, x0.2.2.1, x0.2.2.2)

noncomputable def laws_toLibraryS (x0 : List Library) : Option (List Library) :=
  N.ite (0 ≤ N.len x0)
    (
      N.ite (N.room (N.len x0) 40)
        (
          loopF (fun (s1 : Int × List Library) =>
              N.cond (N.lt s1.1 (N.len x0))
                (
                  N.ite (0 ≤ s1.1)
                    (
                      N.ite (s1.1 < N.len x0)
                        (
                          N.bind (laws_toLibrary (N.rd x0 s1.1 (0, [], false, false))) fun r1 =>
                            N.ite (0 ≤ s1.1)
                              (
                                N.ite (s1.1 < N.len s1.2)
                                  (some (.inl (N.add .i64 s1.1 1, N.set s1.2 s1.1 r1)))
                                  none)
                              none)
                        none)
                    none)
                (some (.inr s1.2)))
            (0, N.rep (N.len x0) (0, [], false, false)))
        none)
    none

noncomputable def spec_l28Has (x0 : List Int) (x1 : Int) : Option (Bool) :=
  loopF (fun (s1 : Int) =>
      N.cond (N.lt s1 (N.len x0))
        (
          N.ite (0 ≤ s1)
            (
              N.ite (s1 < N.len x0)
                (
                  N.cond (N.eq (N.rd x0 s1 0) x1)
                    (some (.inr true))
                    (some (.inl (N.add .i64 s1 1))))
                none)
            none)
        (some (.inr false)))
    0

noncomputable def spec_HoldersOf (x0 : List Library) (x1 : Int) : Option (List Int) :=
  loopF (fun (s1 : List Int × Int) =>
      N.cond (N.lt s1.2 (N.len x0))
        (
          N.ite (0 ≤ s1.2)
            (
              N.ite (s1.2 < N.len x0)
                (
                  N.cond ((N.rd x0 s1.2 (0, [], false, false)).2.2.1)
                    (
                      N.ite (0 ≤ s1.2)
                        (
                          N.ite (s1.2 < N.len x0)
                            (
                              N.bind (spec_l28Has ((N.rd x0 s1.2 (0, [], false, false)).2.1) x1) fun r1 =>
                                N.cond r1
                                  (
                                    N.ite (0 ≤ s1.2)
                                      (
                                        N.ite (s1.2 < N.len x0)
                                          (
                                            N.ite (N.fits s1.1 [(N.rd x0 s1.2 (0, [], false, false)).1] 8)
                                              (some (.inl (N.app s1.1 [(N.rd x0 s1.2 (0, [], false, false)).1], N.add .i64 s1.2 1)))
                                              none)
                                          none)
                                      none)
                                  (some (.inl (s1.1, N.add .i64 s1.2 1))))
                            none)
                        none)
                    (some (.inl (s1.1, N.add .i64 s1.2 1))))
                none)
            none)
        (some (.inr s1.1)))
    ([], 0)

noncomputable def slices_Index_int (x0 : List Int) (x1 : Int) : Option (Int) :=
  loopF (fun (s1 : Int) =>
      N.cond (N.lt s1 (N.len x0))
        (
          N.ite (0 ≤ s1)
            (
              N.ite (s1 < N.len x0)
                (
                  N.cond (N.eq x1 (N.rd x0 s1 0))
                    (some (.inr s1))
                    (some (.inl (N.add .i64 s1 1))))
                none)
            none)
        (some (.inr (-1))))
    0

noncomputable def slices_Contains_int (x0 : List Int) (x1 : Int) : Option (Bool) :=
  N.bind (slices_Index_int x0 x1) fun r1 =>
    some (N.ge r1 0)

noncomputable def impl_HoldersOf (x0 : List Library) (x1 : Int) : Option (List Int) :=
  loopF (fun (s1 : List Int × Int) =>
      N.cond (N.lt s1.2 (N.len x0))
        (
          N.ite (0 ≤ s1.2)
            (
              N.ite (s1.2 < N.len x0)
                (
                  N.cond ((N.rd x0 s1.2 (0, [], false, false)).2.2.1)
                    (
                      N.bind (slices_Contains_int ((N.rd x0 s1.2 (0, [], false, false)).2.1) x1) fun r1 =>
                        N.cond r1
                          (
                            N.ite (N.fits s1.1 [(N.rd x0 s1.2 (0, [], false, false)).1] 8)
                              (some (.inl (N.app s1.1 [(N.rd x0 s1.2 (0, [], false, false)).1], N.add .i64 s1.2 1)))
                              none)
                          (some (.inl (s1.1, N.add .i64 s1.2 1))))
                    (some (.inl (s1.1, N.add .i64 s1.2 1))))
                none)
            none)
        (some (.inr s1.1)))
    ([], 0)

noncomputable def laws_eqIntS (x0 : List Int) (x1 : List Int) : Option (Bool) :=
  N.cond (N.ne (N.len x0) (N.len x1))
    (some false)
    (
      loopF (fun (s1 : Int) =>
          N.cond (N.lt s1 (N.len x0))
            (
              N.ite (0 ≤ s1)
                (
                  N.ite (s1 < N.len x0)
                    (
                      N.ite (0 ≤ s1)
                        (
                          N.ite (s1 < N.len x1)
                            (
                              N.cond (N.ne (N.rd x0 s1 0) (N.rd x1 s1 0))
                                (some (.inr false))
                                (some (.inl (N.add .i64 s1 1))))
                            none)
                        none)
                    none)
                none)
            (some (.inr true)))
        0)

noncomputable def laws_eqLibrary (x0 : Library) (x1 : Library) : Option (Bool) :=
  N.cond (N.ne x0.1 x1.1)
    (some false)
    (
      N.bind (laws_eqIntS x0.2.1 x1.2.1) fun r1 =>
        N.cond (N.not r1)
          (some false)
          (
            N.cond (N.neB x0.2.2.1 x1.2.2.1)
              (some false)
              (
                N.cond (N.neB x0.2.2.2 x1.2.2.2)
                  (some false)
                  (some true))))

noncomputable def laws_eqLibraryS (x0 : List Library) (x1 : List Library) : Option (Bool) :=
  N.cond (N.ne (N.len x0) (N.len x1))
    (some false)
    (
      loopF (fun (s1 : Int) =>
          N.cond (N.lt s1 (N.len x0))
            (
              N.ite (0 ≤ s1)
                (
                  N.ite (s1 < N.len x0)
                    (
                      N.ite (0 ≤ s1)
                        (
                          N.ite (s1 < N.len x1)
                            (
                              N.bind (laws_eqLibrary (N.rd x0 s1 (0, [], false, false)) (N.rd x1 s1 (0, [], false, false))) fun r1 =>
                                N.cond (N.not r1)
                                  (some (.inr false))
                                  (some (.inl (N.add .i64 s1 1))))
                            none)
                        none)
                    none)
                none)
            (some (.inr true)))
        0)

noncomputable def laws_markIntS (x0 : List Int) (x1 : Int) : Option (Int × (List Int)) :=
  loopF (fun (s1 : Int × Int × List Int) =>
      N.cond (N.lt s1.2.1 (N.len s1.2.2))
        (
          N.ite (0 ≤ s1.2.1)
            (
              N.ite (s1.2.1 < N.len s1.2.2)
                (some (.inl (N.add .i64 s1.1 1, N.add .i64 s1.2.1 1, N.set s1.2.2 s1.2.1 s1.1)))
                none)
            none)
        (some (.inr (s1.1, s1.2.2))))
    (x1, 0, x0)

noncomputable def laws_markLibraryS (x0 : List Library) (x1 : Int) : Option (Int × (List Library)) :=
  loopF (fun (s1 : Int × Int × List Library) =>
      N.cond (N.lt s1.2.1 (N.len s1.2.2))
        (
          N.ite (0 ≤ s1.2.1)
            (
              N.ite (s1.2.1 < N.len s1.2.2)
                (
                  N.let_ (N.set s1.2.2 s1.2.1 (s1.1, (N.rd s1.2.2 s1.2.1 (0, [], false, false)).2.1, (N.rd s1.2.2 s1.2.1 (0, [], false, false)).2.2.1, (N.rd s1.2.2 s1.2.1 (0, [], false, false)).2.2.2)) fun v1 =>
                    N.ite (0 ≤ s1.2.1)
                      (
                        N.ite (s1.2.1 < N.len v1)
                          (
                            N.bind (laws_markIntS ((N.rd v1 s1.2.1 (0, [], false, false)).2.1) (N.add .i64 s1.1 1)) fun r1 =>
                              N.let_ (N.set v1 s1.2.1 ((N.rd v1 s1.2.1 (0, [], false, false)).1, r1.2, (N.rd v1 s1.2.1 (0, [], false, false)).2.2.1, (N.rd v1 s1.2.1 (0, [], false, false)).2.2.2)) fun v2 =>
                                N.ite (0 ≤ s1.2.1)
                                  (
                                    N.ite (s1.2.1 < N.len v2)
                                      (
                                        N.let_ (N.set v2 s1.2.1 ((N.rd v2 s1.2.1 (0, [], false, false)).1, (N.rd v2 s1.2.1 (0, [], false, false)).2.1, N.eq (N.rem r1.1 3) 0, (N.rd v2 s1.2.1 (0, [], false, false)).2.2.2)) fun v3 =>
                                          N.ite (0 ≤ s1.2.1)
                                            (
                                              N.ite (s1.2.1 < N.len v3)
                                                (
                                                  N.let_ (N.set v3 s1.2.1 ((N.rd v3 s1.2.1 (0, [], false, false)).1, (N.rd v3 s1.2.1 (0, [], false, false)).2.1, (N.rd v3 s1.2.1 (0, [], false, false)).2.2.1, N.eq (N.rem (N.add .i64 r1.1 1) 3) 0)) fun v4 =>
                                                    some (.inl (N.add .i64 (N.add .i64 r1.1 1) 1, N.add .i64 s1.2.1 1, v4)))
                                                none)
                                            none)
                                      none)
                                  none)
                          none)
                      none)
                none)
            none)
        (some (.inr (s1.1, s1.2.2))))
    (x1, 0, x0)

noncomputable def laws_heldIntS (x0 : List Int) (x1 : Int) : Option (Int) :=
  loopF (fun (s1 : Int × Int) =>
      N.cond (N.lt s1.2 (N.len x0))
        (
          N.ite (0 ≤ s1.2)
            (
              N.ite (s1.2 < N.len x0)
                (
                  N.cond (N.ne (N.rd x0 s1.2 0) s1.1)
                    (some (.inr (-1)))
                    (some (.inl (N.add .i64 s1.1 1, N.add .i64 s1.2 1))))
                none)
            none)
        (some (.inr s1.1)))
    (x1, 0)

noncomputable def laws_FnExactHoldersOf (x0 : List Library) (x1 : Int) : Option (Bool) :=
  N.bind (laws_szLibraryS x0 1048576) fun r1 =>
    N.cond (N.lt r1 0)
      (some true)
      (
        N.bind (laws_toLibraryS x0) fun r2 =>
          N.bind (spec_HoldersOf r2 x1) fun r3 =>
            N.bind (laws_toLibraryS x0) fun r4 =>
              N.bind (impl_HoldersOf r4 x1) fun r5 =>
                N.bind (laws_eqIntS r5 r3) fun r6 =>
                  N.cond (N.not r6)
                    (some false)
                    (
                      N.bind (laws_toLibraryS x0) fun r7 =>
                        N.bind (laws_eqLibraryS r4 r7) fun r8 =>
                          N.cond (N.not r8)
                            (some false)
                            (
                              N.bind (laws_markLibraryS r4 1) fun r9 =>
                                N.cond (N.lt r9.1 0)
                                  (some false)
                                  (
                                    N.bind (laws_eqIntS r5 r3) fun r10 =>
                                      N.cond (N.not r10)
                                        (some false)
                                        (
                                          N.bind (laws_markIntS r5 1) fun r11 =>
                                            N.bind (laws_heldIntS r11.2 1) fun r12 =>
                                              N.cond (N.lt r12 0)
                                                (some false)
                                                (
                                                  N.cond (N.ne r12 r11.1)
                                                    (some false)
                                                    (
                                                      N.bind (laws_toLibraryS x0) fun r13 =>
                                                        N.bind (impl_HoldersOf r13 x1) fun r14 =>
                                                          N.bind (laws_eqIntS r14 r3) fun r15 =>
                                                            N.cond (N.not r15)
                                                              (some false)
                                                              (
                                                                N.bind (laws_heldIntS r11.2 1) fun r16 =>
                                                                  N.cond (N.lt r16 0)
                                                                    (some false)
                                                                    (
                                                                      N.cond (N.ne r16 r11.1)
                                                                        (some false)
                                                                        (some true))))))))))

end D
end Go.Sh
set_option linter.unusedVariables false
set_option linter.unusedSimpArgs false
namespace Go.Sh
open Go
/-! ## Loops -/
theorem loopN_det {S R : Type} {step : S → Option (S ⊕ R)} : ∀ {n m : Nat} {s : S} {a b : R}, loopN step n s = some a → loopN step m s = some b → a = b
  | 0, _, _, _, _, h, _ => by simp [loopN] at h
  | _ + 1, 0, _, _, _, _, h => by simp [loopN] at h
  | n + 1, m + 1, s, a, b, h1, h2 => by
    simp only [loopN] at h1 h2
    split at h1
    · cases h1
    · rename_i s' hs; rw [hs] at h2; exact loopN_det h1 h2
    · rename_i r hr; rw [hr] at h2; simp at h1 h2; rw [← h1, ← h2]

theorem loopF_of {S R : Type} {step : S → Option (S ⊕ R)} {s : S} {n : Nat} {r : R} (h : loopN step n s = some r) : loopF step s = some r := by
  have hx : ∃ n r, loopN step n s = some r := ⟨n, r, h⟩
  unfold loopF
  rw [dif_pos hx]
  obtain ⟨m, hm⟩ := Classical.choose_spec hx |> fun h => (⟨_, Classical.choose_spec h⟩ : ∃ v, loopN step (Classical.choose hx) s = some v)
  have := Classical.choose_spec (Classical.choose_spec hx)
  rw [loopN_det this h]

theorem loopF_inr {S R : Type} {step : S → Option (S ⊕ R)} {s : S} {r : R} (h : step s = some (.inr r)) : loopF step s = some r :=
  loopF_of (n := 1) (by simp [loopN, h])

theorem loopF_inl {S R : Type} {step : S → Option (S ⊕ R)} {s s' : S} (h : step s = some (.inl s')) : loopF step s = loopF step s' := by
  by_cases hx : ∃ n r, loopN step n s' = some r
  · obtain ⟨n, r, hn⟩ := hx
    rw [loopF_of hn, loopF_of (n := n + 1) (r := r) (by simp [loopN, h, hn])]
  · have hy : ¬ ∃ n r, loopN step n s = some r := by
      rintro ⟨n, r, hn⟩
      cases n with
      | zero => simp [loopN] at hn
      | succ n => simp only [loopN, h] at hn; exact hx ⟨n, r, hn⟩
    unfold loopF
    rw [dif_neg hx, dif_neg hy]

/-- counting up to n -/
theorem loop_upto {σ S R : Type} {step : S → Option (S ⊕ R)} (n : Nat) (emb : Nat → σ → S) (st : Nat → σ) (r : R)
    (hstep : ∀ k < n, step (emb k (st k)) = some (.inl (emb (k + 1) (st (k + 1))))) (hend : step (emb n (st n)) = some (.inr r)) : loopF step (emb 0 (st 0)) = some r := by
  have key : ∀ (m k : Nat), k + m = n → loopF step (emb k (st k)) = some r := by
    intro m
    induction m with
    | zero => intro k hk; have : k = n := by omega
              subst this; exact loopF_inr hend
    | succ m ih => intro k hk; rw [loopF_inl (hstep k (by omega))]; exact ih (k + 1) (by omega)
  exact key n 0 (by omega)

/-! ## Words -/

section
variable {R α β : Type}
@[simp] theorem bind_some' (x : β) (f : β → Option R) : N.bind (some x) f = f x := rfl

@[simp] theorem cond_true (x y : Option R) : N.cond true x y = x := rfl

@[simp] theorem cond_false (x y : Option R) : N.cond false x y = y := rfl

theorem cond_if (b : Bool) (x y : Option R) : N.cond b x y = if b = true then x else y := rfl

theorem cond_dec (p : Prop) [Decidable p] (x y : Option R) : N.cond (decide p) x y = if p then x else y := by unfold N.cond; by_cases h : p <;> simp [h]

theorem ite_if (c : Prop) [Decidable c] (x y : Option R) : N.ite c x y = if c then x else y := rfl

theorem nite_pos {c : Prop} [Decidable c] (h : c) (x y : Option R) : N.ite c x y = x := if_pos h

theorem lt_d (a b : Int) : N.lt a b = decide (a < b) := rfl

theorem ge_d (a b : Int) : N.ge a b = decide (b ≤ a) := rfl

theorem eq_d (a b : Int) : N.eq a b = decide (a = b) := rfl

theorem ne_d (a b : Int) : N.ne a b = decide (¬ a = b) := by
  unfold N.ne; by_cases h : a = b <;> simp [h]

theorem len_d (xs : List α) : N.len xs = (xs.length : Int) := by simp [N.len]

theorem rd_at (xs : List α) (k : Nat) (hk : k < xs.length) (d : α) : N.rd xs (k : Int) d = xs[k] := by
  simp [N.rd, List.getD, hk]

theorem wrap_id {n : Int} (h1 : -9223372036854775808 ≤ n) (h2 : n < 9223372036854775808) : IntKind.i64.wrap n = n := by
  have e1 : ((2 : Int) ^ IntKind.i64.bits) = 18446744073709551616 := by decide
  have e2 : ((2 : Int) ^ (IntKind.i64.bits - 1)) = 9223372036854775808 := by decide
  have e3 : IntKind.i64.signed = true := rfl
  unfold IntKind.wrap
  rw [e1, e2, e3]
  simp only [Bool.true_and, decide_eq_true_eq]
  split <;> omega

theorem add_id {a b : Int} (h1 : -9223372036854775808 ≤ a + b) (h2 : a + b < 9223372036854775808) : N.add .i64 a b = a + b := wrap_id h1 h2

theorem sub_id {a b : Int} (h1 : -9223372036854775808 ≤ a - b) (h2 : a - b < 9223372036854775808) : N.sub .i64 a b = a - b := wrap_id h1 h2

theorem next_id {k n : Nat} (hk : k < n) (hn : (n : Int) < 9223372036854775808) : N.add .i64 (k : Int) 1 = ((k + 1 : Nat) : Int) := by
  rw [add_id (by omega) (by omega)]; omega

end
end Go.Sh
set_option linter.unusedVariables false
set_option linter.unusedSimpArgs false
namespace Go.Sh
open Go
/-! ## Bounds of data -/
class Data (α : Type) where
  bd : α → Prop
  ok : α → Prop
  le : ∀ x, ok x → bd x

class Flat (α : Type) [Data α] where
  fl : ∀ x : α, Data.bd x → Data.ok x

open Data
instance : Data Int := ⟨fun x => -9223372036854775808 ≤ x ∧ x < 9223372036854775808, fun x => -9223372036854775808 ≤ x ∧ x < 9223372036854775808, fun _ h => h⟩

instance : Data Bool := ⟨fun _ => True, fun _ => True, fun _ h => h⟩

instance : Data ByteArray := ⟨fun s => s.size ≤ 4611686018427387904, fun s => s.size ≤ 4611686018427387904, fun _ h => h⟩

instance {α β : Type} [Data α] [Data β] : Data (α × β) := ⟨fun x => bd x.1 ∧ bd x.2, fun x => ok x.1 ∧ ok x.2, fun x h => ⟨le _ h.1, le _ h.2⟩⟩

instance {α : Type} [Data α] : Data (List α) := ⟨fun xs => xs.length ≤ 4611686018427387904 ∧ ∀ x ∈ xs, bd x, fun xs => xs.length ≤ 1048576 ∧ ∀ x ∈ xs, ok x, fun xs h => ⟨by omega, fun x hx => le x (h.2 x hx)⟩⟩

instance : Flat Int := ⟨fun _ h => h⟩

instance : Flat Bool := ⟨fun _ h => h⟩

instance : Flat ByteArray := ⟨fun _ h => h⟩

instance {α β : Type} [Data α] [Data β] [Flat α] [Flat β] : Flat (α × β) := ⟨fun x h => ⟨Flat.fl _ h.1, Flat.fl _ h.2⟩⟩

section
variable {α : Type} [Data α]
theorem Data.ok.at {xs : List α} (h : ok xs) {k : Nat} (hk : k < xs.length) : ok xs[k] := h.2 _ (List.getElem_mem hk)

theorem Data.bd.at {xs : List α} (h : bd xs) {k : Nat} (hk : k < xs.length) : bd xs[k] := h.2 _ (List.getElem_mem hk)

theorem Data.ok.sub {xs ys : List α} (h : ok xs) (hs : ys.Sublist xs) : ok ys := ⟨Nat.le_trans hs.length_le h.1, fun x hx => h.2 x (hs.subset hx)⟩

end
/-! ## Words, once more -/

section
variable {R α β : Type}
theorem neB_d (a b : Bool) : N.neB a b = decide (¬ a = b) := by cases a <;> cases b <;> rfl

theorem not_d (p : Prop) [Decidable p] : N.not (decide p) = decide (¬ p) := by unfold N.not; by_cases h : p <;> simp [h]

/-! ## Copies -/
theorem set_grow {xs ys : List α} {k : Nat} (hk : k < xs.length) (hl : ys.length = xs.length) (h : ys.take k = xs.take k) : (ys.set k xs[k]).take (k + 1) = xs.take (k + 1) := by
  apply List.ext_getElem
  · simp [hl]
  · intro i h1 h2
    simp only [List.length_take, List.length_set] at h1 h2
    simp only [List.getElem_take, List.getElem_set]
    split
    · rename_i e; subst e; rfl
    · have hi : i < k := by omega
      have := congrArg (fun l => l[i]?) h
      simp [List.getElem?_take, hi] at this
      rw [List.getElem?_eq_getElem (by omega), List.getElem?_eq_getElem (by omega)] at this
      simpa using this

/-- an element of a list that is copied -/
def toStep (xs : List α) (d : α) (f : α → Option α) (s1 : Int × List α) : Option ((Int × List α) ⊕ List α) :=
  N.cond (N.lt s1.1 (N.len xs)) (N.ite (0 ≤ s1.1) (N.ite (s1.1 < N.len xs) (N.bind (f (N.rd xs s1.1 d)) fun r1 => N.ite (0 ≤ s1.1) (N.ite (s1.1 < N.len s1.2) (some (.inl (N.add .i64 s1.1 1, N.set s1.2 s1.1 r1))) none) none) none) none) (some (.inr s1.2))

theorem toLoop {xs : List α} {d : α} {f : α → Option α} (hf : ∀ x ∈ xs, f x = some x) (hs : xs.length ≤ 1048576) : loopF (toStep xs d f) (0, N.rep (N.len xs) d) = some xs := by
  have key : ∀ (m k : Nat) (ys : List α), k + m = xs.length → ys.length = xs.length → ys.take k = xs.take k → loopF (toStep xs d f) ((k : Int), ys) = some xs := by
    intro m
    induction m with
    | zero =>
      intro k ys hk hl ht
      refine loopF_inr ?_
      have : ys = xs := by
        rw [show k = xs.length by omega] at ht
        rw [List.take_length, ← hl, List.take_length] at ht
        exact ht
      subst this
      simp only [toStep, lt_d, len_d, cond_dec]
      rw [if_neg (by omega)]
    | succ m ih =>
      intro k ys hk hl ht
      have hlt : k < xs.length := by omega
      rw [loopF_inl (s' := (((k + 1 : Nat) : Int), ys.set k xs[k])) ?_]
      · exact ih (k + 1) _ (by omega) (by simp [hl]) (set_grow hlt hl ht)
      · simp only [toStep, ite_if]; simp only [lt_d, len_d, cond_dec]
        rw [if_pos (by omega), if_pos (by omega), if_pos (by omega), rd_at xs k hlt, hf _ (List.getElem_mem hlt), bind_some', if_pos (by omega), if_pos (by omega), next_id hlt (by omega)]
        rfl
  have := key xs.length 0 (N.rep (N.len xs) d) (by omega) (by simp [N.rep, N.len]) (by simp)
  simpa using this

theorem toS_is {xs : List α} {bytes : Nat} {d : α} {f : α → Option α} (hb : bytes ≤ 10000) (hf : ∀ x ∈ xs, f x = some x) (hs : xs.length ≤ 1048576) :
    N.ite (0 ≤ N.len xs) (N.ite (N.room (N.len xs) bytes) (loopF (toStep xs d f) (0, N.rep (N.len xs) d)) none) none = some xs := by
  rw [nite_pos (by simp [N.len]), nite_pos, toLoop hf hs]
  unfold N.room N.len
  have : (xs.length : Int) * bytes ≤ 1048576 * 10000 := Int.mul_le_mul (by omega) (by omega) (by omega) (by omega)
  omega

/-! ## Comparing -/
def eqStep (xs ys : List α) (d : α) (f : α → α → Option Bool) (s1 : Int) : Option (Int ⊕ Bool) :=
  N.cond (N.lt s1 (N.len xs)) (N.ite (0 ≤ s1) (N.ite (s1 < N.len xs) (N.ite (0 ≤ s1) (N.ite (s1 < N.len ys) (N.bind (f (N.rd xs s1 d) (N.rd ys s1 d)) fun r1 => N.cond (N.not r1) (some (.inr false)) (some (.inl (N.add .i64 s1 1)))) none) none) none) none) (some (.inr true))

theorem eqLoop [DecidableEq α] {xs ys : List α} {d : α} {f : α → α → Option Bool} {r : α → α → Bool} (hf : ∀ x ∈ xs, ∀ y ∈ ys, f x y = some (r x y)) (hs : xs.length ≤ 4611686018427387904) (hl : xs.length = ys.length) :
    loopF (eqStep xs ys d f) 0 = some ((List.zip xs ys).all fun p => r p.1 p.2) := by
  have key : ∀ (m k : Nat), k + m = xs.length → loopF (eqStep xs ys d f) (k : Int) = some ((List.zip (xs.drop k) (ys.drop k)).all fun p => r p.1 p.2) := by
    intro m
    induction m with
    | zero =>
      intro k hk
      rw [loopF_inr (r := true) ?_]
      · rw [List.drop_eq_nil_of_le (by omega)]; simp
      · simp only [eqStep, lt_d, len_d, cond_dec]; rw [if_neg (by omega)]
    | succ m ih =>
      intro k hk
      have hlt : k < xs.length := by omega
      have hlt' : k < ys.length := by omega
      rw [List.drop_eq_getElem_cons hlt, List.drop_eq_getElem_cons hlt']
      have hst : eqStep xs ys d f (k : Int) = N.cond (N.not (r xs[k] ys[k])) (some (.inr false)) (some (.inl ((k + 1 : Nat) : Int))) := by
        simp only [eqStep, ite_if]; simp only [lt_d, len_d, cond_dec]
        rw [if_pos (by omega), if_pos (by omega), if_pos (by omega), if_pos (by omega), if_pos (by omega), rd_at xs k hlt, rd_at ys k hlt', hf _ (List.getElem_mem hlt) _ (List.getElem_mem hlt'), bind_some', next_id hlt (by omega)]
      cases hr : r xs[k] ys[k] with
      | true => rw [loopF_inl (s' := ((k + 1 : Nat) : Int)) (by rw [hst, hr]; rfl), ih (k + 1) (by omega)]; simp only [List.zip_cons_cons, List.all_cons, hr, Bool.true_and]
      | false => rw [loopF_inr (r := false) (by rw [hst, hr]; rfl)]; simp only [List.zip_cons_cons, List.all_cons, hr, Bool.false_and]
  simpa using key xs.length 0 (by omega)

theorem zip_all_eq [DecidableEq α] : ∀ {xs ys : List α}, xs.length = ys.length → ((List.zip xs ys).all fun p => decide (p.1 = p.2)) = decide (xs = ys)
  | [], [], _ => by simp
  | x :: xs, y :: ys, h => by
    simp only [List.zip_cons_cons, List.all_cons, zip_all_eq (xs := xs) (ys := ys) (by simpa using h)]
    by_cases h1 : x = y <;> by_cases h2 : xs = ys <;> simp [h1, h2]
  | [], _ :: _, h => by simp at h
  | _ :: _, [], h => by simp at h

theorem eqS_is [DecidableEq α] {xs ys : List α} {d : α} {f : α → α → Option Bool} (hf : ∀ x ∈ xs, ∀ y, f x y = some (decide (x = y))) (hs : xs.length ≤ 4611686018427387904) :
    N.cond (N.ne (N.len xs) (N.len ys)) (some false) (loopF (eqStep xs ys d f) 0) = some (decide (xs = ys)) := by
  simp only [ne_d, len_d, cond_dec]
  split
  · rename_i h
    have : ¬ xs = ys := fun e => h (by rw [e])
    simp [this]
  · rename_i h
    have hl : xs.length = ys.length := by omega
    rw [eqLoop (r := fun x y => decide (x = y)) (fun x hx y _ => hf x hx y) hs hl, zip_all_eq hl]

/-! ## Sizes -/
def SzOk [Data α] (f : α → Int → Option Int) : Prop := ∀ x left, bd x → 0 ≤ left → left ≤ 1048576 → ∃ r, f x left = some r ∧ (r < 0 ∨ (ok x ∧ 0 ≤ r ∧ r ≤ left))

theorem szFlat_is [Data α] [Flat α] : SzOk (fun (xs : List α) (left : Int) => N.cond (N.lt (N.sub .i64 left (N.len xs)) 0) (some (-1)) (some (N.sub .i64 left (N.len xs)))) := by
  intro xs left hb h0 h1
  have h2 := hb.1
  simp only [len_d, lt_d, cond_dec, sub_id (a := left) (b := (xs.length : Int)) (by omega) (by omega)]
  split
  · exact ⟨-1, rfl, .inl (by omega)⟩
  · exact ⟨_, rfl, .inr ⟨⟨by omega, fun x hx => Flat.fl x (hb.2 x hx)⟩, by omega, by omega⟩⟩

def szStep (xs : List α) (d : α) (f : α → Int → Option Int) (s1 : Int × Int) : Option ((Int × Int) ⊕ Int) :=
  N.cond (N.lt s1.2 (N.len xs)) (N.ite (0 ≤ s1.2) (N.ite (s1.2 < N.len xs) (N.bind (f (N.rd xs s1.2 d) s1.1) fun r1 => N.cond (N.lt r1 0) (some (.inr (-1))) (some (.inl (r1, N.add .i64 s1.2 1)))) none) none) (some (.inr s1.1))

theorem szNest_is [Data α] {d : α} {f : α → Int → Option Int} (hf : SzOk f) : SzOk (fun (xs : List α) (left : Int) => N.cond (N.lt (N.sub .i64 left (N.len xs)) 0) (some (-1)) (loopF (szStep xs d f) (N.sub .i64 left (N.len xs), 0))) := by
  intro xs left hb h0 h1
  have h2 := hb.1
  simp only [len_d, lt_d, cond_dec, sub_id (a := left) (b := (xs.length : Int)) (by omega) (by omega)]
  split
  · exact ⟨-1, rfl, .inl (by omega)⟩
  · have key : ∀ (m k : Nat) (l : Int), k + m = xs.length → 0 ≤ l → l ≤ 1048576 → ∃ r, loopF (szStep xs d f) (l, (k : Int)) = some r ∧ (r < 0 ∨ ((∀ x ∈ xs.drop k, ok x) ∧ 0 ≤ r ∧ r ≤ l)) := by
      intro m
      induction m with
      | zero =>
        intro k l hk hl0 hl1
        refine ⟨l, loopF_inr ?_, .inr ⟨fun x hx => ?_, hl0, by omega⟩⟩
        · simp only [szStep, lt_d, len_d, cond_dec]; rw [if_neg (by omega)]
        · rw [List.drop_eq_nil_of_le (by omega)] at hx; cases hx
      | succ m ih =>
        intro k l hk hl0 hl1
        have hlt : k < xs.length := by omega
        obtain ⟨r, e, h⟩ := hf xs[k] l (hb.at hlt) hl0 hl1
        have hst : szStep xs d f (l, (k : Int)) = if r < 0 then some (.inr (-1)) else some (.inl (r, ((k + 1 : Nat) : Int))) := by
          simp only [szStep, ite_if]; simp only [lt_d, len_d, cond_dec]
          rw [if_pos (by omega), if_pos (by omega), if_pos (by omega), rd_at xs k hlt, e, bind_some', next_id hlt (by omega)]
        rcases h with h | ⟨h3, h4, h5⟩
        · exact ⟨-1, loopF_inr (by rw [hst, if_pos h]), .inl (by omega)⟩
        · obtain ⟨r2, e2, h6⟩ := ih (k + 1) r (by omega) h4 (by omega)
          refine ⟨r2, by rw [loopF_inl (by rw [hst, if_neg (by omega)]), e2], h6.imp id fun ⟨h7, h8, h9⟩ => ⟨fun x hx => ?_, h8, by omega⟩⟩
          rw [List.drop_eq_getElem_cons hlt] at hx
          rcases List.mem_cons.1 hx with rfl | hx
          · exact h3
          · exact h7 x hx
    obtain ⟨r, e, h⟩ := key xs.length 0 (left - xs.length) (by omega) (by omega) (by omega)
    refine ⟨r, e, h.imp id fun ⟨h7, h8, h9⟩ => ⟨⟨by omega, by simpa using h7⟩, h8, by omega⟩⟩

end
end Go.Sh
set_option linter.unusedVariables false
set_option linter.unusedSimpArgs false
set_option synthInstance.maxSize 100000
set_option maxHeartbeats 1000000
namespace Go.Sh
open Go Data
namespace D
theorem laws_szIntS_is : SzOk laws_szIntS := szFlat_is

theorem laws_szLibrary_is : SzOk laws_szLibrary := by
  intro x left hb h0 h1
  unfold laws_szLibrary
  obtain ⟨r0, e0, g0⟩ := laws_szIntS_is _ left hb.2.1 h0 h1
  rw [e0, bind_some']
  rcases g0 with g0 | ⟨k0, l0, m0⟩
  · exact ⟨-1, by (try simp only [lt_d, cond_dec]); rw [if_pos g0], .inl (by omega)⟩
  (try simp only [lt_d, cond_dec]); rw [if_neg (by omega)]
  exact ⟨_, rfl, .inr ⟨⟨Flat.fl _ hb.1, k0, Flat.fl _ hb.2.2.1, Flat.fl _ hb.2.2.2⟩, by omega, by omega⟩⟩

theorem laws_szLibraryS_is : SzOk laws_szLibraryS := szNest_is (d := (0, [], false, false)) laws_szLibrary_is

theorem laws_toIntS_is (x : List Int) (h : ok x) : laws_toIntS x = some x := by
  unfold laws_toIntS
  exact toS_is (d := 0) (f := fun y => some y) (by decide) (fun y hy => rfl) h.1

theorem laws_toLibrary_is (x : Library) (h : ok x) : laws_toLibrary x = some x := by
  unfold laws_toLibrary
  rw [laws_toIntS_is _ h.2.1, bind_some']

theorem laws_toLibraryS_is (x : List Library) (h : ok x) : laws_toLibraryS x = some x := by
  unfold laws_toLibraryS
  exact toS_is (d := (0, [], false, false)) (f := laws_toLibrary) (by decide) (fun y hy => laws_toLibrary_is y (h.2 y hy)) h.1

theorem laws_eqIntS_is (x y : List Int) (h : ok x) : laws_eqIntS x y = some (decide (x = y)) := by
  have e : laws_eqIntS x y = N.cond (N.ne (N.len x) (N.len y)) (some false) (loopF (eqStep x y 0 fun a b => some (decide (a = b))) 0) := by
    unfold laws_eqIntS
    congr 2 <;> (funext s; simp only [eqStep, bind_some', ne_d, not_d, cond_dec]; try simp only [ite_not])
  rw [e]
  exact eqS_is (fun a ha b => rfl) (by have := h.1; omega)

theorem laws_eqLibrary_is (x y : Library) (h : ok x) : laws_eqLibrary x y = some (decide (x = y)) := by
  obtain ⟨a0, a1, a2, a3⟩ := x; obtain ⟨b0, b1, b2, b3⟩ := y
  unfold laws_eqLibrary
  simp only [laws_eqIntS_is _ _ h.2.1, bind_some']
  simp only [ne_d, neB_d, not_d, cond_dec, Prod.mk.injEq]
  by_cases e0 : a0 = b0 <;> by_cases e1 : a1 = b1 <;> by_cases e2 : a2 = b2 <;> by_cases e3 : a3 = b3 <;> simp [e0, e1, e2, e3]

theorem laws_eqLibraryS_is (x y : List Library) (h : ok x) : laws_eqLibraryS x y = some (decide (x = y)) := by
  unfold laws_eqLibraryS
  exact eqS_is (d := (0, [], false, false)) (f := laws_eqLibrary) (fun a ha b => laws_eqLibrary_is a b (h.2 a ha)) (by have := h.1; omega)

end D
end Go.Sh
set_option linter.unusedVariables false
set_option linter.unusedSimpArgs false
set_option synthInstance.maxSize 100000
set_option maxHeartbeats 1000000
namespace Go.Sh
open Go Data
namespace D
end D
end Go.Sh
set_option linter.unusedVariables false
set_option linter.unusedSimpArgs false
set_option synthInstance.maxSize 100000
set_option maxHeartbeats 1000000
namespace Go.Sh
open Go Data
/-! ## Loops that look for something -/
theorem loop_find {α S R : Type} {step : S → Option (S ⊕ R)} (xs : List α) (emb : Nat → S) (p : α → Option R) (r0 : R)
    (hstep : ∀ (k : Nat) (hk : k < xs.length), step (emb k) = some (match p xs[k] with | some r => .inr r | none => .inl (emb (k + 1))))
    (hend : step (emb xs.length) = some (.inr r0)) : loopF step (emb 0) = some ((xs.findSome? p).getD r0) := by
  have key : ∀ (m k : Nat), k + m = xs.length → loopF step (emb k) = some (((xs.drop k).findSome? p).getD r0) := by
    intro m
    induction m with
    | zero =>
      intro k hk
      have hk' : k = xs.length := by omega
      subst hk'
      rw [loopF_inr hend, List.drop_length]; rfl
    | succ m ih =>
      intro k hk
      have hlt : k < xs.length := by omega
      rw [List.drop_eq_getElem_cons hlt, List.findSome?_cons]
      cases hp : p xs[k] with
      | none => rw [loopF_inl (s' := emb (k + 1)) (by rw [hstep k hlt, hp]), ih (k + 1) (by omega)]
      | some r => rw [loopF_inr (r := r) (by rw [hstep k hlt, hp])]; rfl
  simpa using key xs.length 0 (by omega)

theorem loop_any {α S : Type} {step : S → Option (S ⊕ Bool)} (xs : List α) (emb : Nat → S) (p : α → Bool)
    (hstep : ∀ (k : Nat) (hk : k < xs.length), step (emb k) = some (if p xs[k] = true then .inr true else .inl (emb (k + 1))))
    (hend : step (emb xs.length) = some (.inr false)) : loopF step (emb 0) = some (xs.any p) := by
  rw [loop_find xs emb (fun x => if p x = true then some true else none) false (fun k hk => by rw [hstep k hk]; split <;> rfl) hend]
  congr 1
  induction xs with
  | nil => rfl
  | cons x xs ih =>
    clear hstep hend
    induction (x :: xs) with
    | nil => rfl
    | cons y ys ih2 => rw [List.findSome?_cons, List.any_cons]; cases hp : p y <;> simp [ih2]

/-- looking for a place -/
theorem loop_index {α S : Type} {step : S → Option (S ⊕ Int)} (xs : List α) (emb : Nat → S) (p : α → Bool)
    (hstep : ∀ (k : Nat) (hk : k < xs.length), step (emb k) = some (if p xs[k] = true then .inr (k : Int) else .inl (emb (k + 1))))
    (hend : step (emb xs.length) = some (.inr (-1))) : loopF step (emb 0) = some (if xs.any p = true then (xs.findIdx p : Int) else -1) := by
  have key : ∀ (m k : Nat), k + m = xs.length → loopF step (emb k) = some (if (xs.drop k).any p = true then ((k + (xs.drop k).findIdx p : Nat) : Int) else -1) := by
    intro m
    induction m with
    | zero =>
      intro k hk
      have hk' : k = xs.length := by omega
      subst hk'
      rw [loopF_inr hend, List.drop_length]; rfl
    | succ m ih =>
      intro k hk
      have hlt : k < xs.length := by omega
      rw [List.drop_eq_getElem_cons hlt, List.any_cons, List.findIdx_cons]
      cases hp : p xs[k] with
      | false =>
        rw [loopF_inl (s' := emb (k + 1)) (by rw [hstep k hlt, hp]; rfl), ih (k + 1) (by omega)]
        simp only [Bool.false_or, _root_.cond_false]
        split
        · congr 2; omega
        · rfl
      | true => rw [loopF_inr (r := (k : Int)) (by rw [hstep k hlt, hp]; rfl)]; simp
  simpa using key xs.length 0 (by omega)

namespace D
/-! ## Lists of numbers -/
theorem slices_Index_int_is {l : List Int} (h : l.length ≤ 4611686018427387904) (x : Int) : slices_Index_int l x = some (if l.any (fun y => decide (x = y)) = true then (l.findIdx (fun y => decide (x = y)) : Int) else -1) := by
  refine loop_index l (fun k => (k : Int)) (fun y => decide (x = y)) (fun k hk => ?_) ?_
  · have h0 : (0 : Int) ≤ (k : Int) := by omega
    have h1 : (k : Int) < (l.length : Int) := by omega
    simp only [ite_if]; simp only [lt_d, len_d, cond_dec, h0, h1, if_true, rd_at l k hk, eq_d, next_id hk (by omega), decide_eq_true_eq]
    split <;> rfl
  · simp only [lt_d, len_d, cond_dec]; rw [if_neg (by omega)]

theorem slices_Contains_int_is {l : List Int} (h : l.length ≤ 4611686018427387904) (x : Int) : slices_Contains_int l x = some (decide (x ∈ l)) := by
  unfold slices_Contains_int
  rw [slices_Index_int_is h, bind_some', ge_d]
  congr 1
  by_cases hx : x ∈ l
  · have : l.any (fun y => decide (x = y)) = true := List.any_eq_true.2 ⟨x, hx, by simp⟩
    rw [if_pos this]; simp [hx]
  · have : ¬ l.any (fun y => decide (x = y)) = true := fun h => by
      obtain ⟨y, hy, e⟩ := List.any_eq_true.1 h
      simp at e; subst e; exact hx hy
    rw [if_neg this]; simp [hx]

theorem spec_l28Has_is {l : List Int} (h : l.length ≤ 4611686018427387904) (x : Int) : spec_l28Has l x = some (decide (x ∈ l)) := by
  have e : l.any (fun y => decide (y = x)) = decide (x ∈ l) := by
    by_cases hx : x ∈ l
    · simp [hx]
    · have : ¬ l.any (fun y => decide (y = x)) = true := fun h => by
        obtain ⟨y, hy, e⟩ := List.any_eq_true.1 h
        simp at e; subst e; exact hx hy
      simp only [Bool.not_eq_true] at this
      simp [hx, this]
  rw [← e]
  refine loop_any l (fun k => (k : Int)) (fun y => decide (y = x)) (fun k hk => ?_) ?_
  · have h0 : (0 : Int) ≤ (k : Int) := by omega
    have h1 : (k : Int) < (l.length : Int) := by omega
    simp only [ite_if]; simp only [lt_d, len_d, cond_dec, h0, h1, if_true, rd_at l k hk, eq_d, next_id hk (by omega), decide_eq_true_eq]
    split <;> rfl
  · simp only [lt_d, len_d, cond_dec]; rw [if_neg (by omega)]

/-! ## Counts -/

end D
end Go.Sh
set_option linter.unusedVariables false
set_option linter.unusedSimpArgs false
set_option synthInstance.maxSize 100000
set_option maxHeartbeats 1000000
namespace Go.Sh
open Go Data
/-- collecting -/
theorem loop_flat {α β : Type} {step : List β × Int → Option ((List β × Int) ⊕ List β)} (xs : List α) (f : α → List β)
    (hstep : ∀ (k : Nat) (hk : k < xs.length), step ((xs.take k).flatMap f, (k : Int)) = some (.inl ((xs.take k).flatMap f ++ f xs[k], ((k + 1 : Nat) : Int))))
    (hend : step (xs.flatMap f, (xs.length : Int)) = some (.inr (xs.flatMap f))) : loopF step ([], 0) = some (xs.flatMap f) := by
  refine loop_upto (r := xs.flatMap f) xs.length (fun k (a : List β) => (a, (k : Int))) (fun k => (xs.take k).flatMap f) (fun k hk => ?_) ?_
  · rw [hstep k hk, List.take_succ_eq_append_getElem hk, List.flatMap_append]; simp
  · rw [List.take_length]; exact hend

theorem flat_len {α β : Type} {f : α → List β} {m : Nat} : ∀ (xs : List α), (∀ x ∈ xs, (f x).length ≤ m) → (xs.flatMap f).length ≤ xs.length * m
  | [], _ => by simp
  | x :: xs, h => by
    have h1 := flat_len xs fun y hy => h y (by simp [hy])
    have h2 := h x (by simp)
    simp only [List.flatMap_cons, List.length_append, List.length_cons, Nat.add_mul]; omega

theorem take_flat_len {α β : Type} {f : α → List β} {m k : Nat} {xs : List α} (h : ∀ x ∈ xs, (f x).length ≤ m) (hk : k ≤ xs.length) : ((xs.take k).flatMap f).length ≤ k * m := by
  have := flat_len (xs.take k) fun y hy => h y (List.mem_of_mem_take hy)
  simpa [Nat.min_eq_left hk] using this

theorem fitsN {α : Type} {xs ys : List α} {b : Nat} (h : xs.length + ys.length ≤ 100000000) (hb : b ≤ 1000000) : N.fits xs ys b := by
  unfold N.fits
  exact Nat.le_trans (Nat.mul_le_mul h hb) (by decide)

namespace D
end D
end Go.Sh
set_option linter.unusedVariables false
set_option linter.unusedSimpArgs false
set_option synthInstance.maxSize 100000
set_option maxHeartbeats 1000000
namespace Go.Sh
open Go Data
namespace D
end D
end Go.Sh
set_option linter.unusedVariables false
set_option linter.unusedSimpArgs false
set_option synthInstance.maxSize 100000
set_option maxHeartbeats 1000000
namespace Go.Sh
open Go Data
namespace D
end D
end Go.Sh
set_option linter.unusedVariables false
set_option linter.unusedSimpArgs false
set_option synthInstance.maxSize 100000
set_option maxHeartbeats 1000000
namespace Go.Sh
open Go Data
theorem let_eq {α R : Type} (x : α) (f : α → Option R) : N.let_ x f = f x := rfl

theorem len_set {α : Type} (xs : List α) (i : Int) (v : α) : N.len (N.set xs i v) = N.len xs := by simp [N.len, N.set]

theorem rd_set {α : Type} {xs : List α} {i : Nat} (h : i < xs.length) (v d : α) : N.rd (N.set xs (i : Int) v) (i : Int) d = v := by simp [N.rd, N.set, List.getD, h]

theorem set_set {α : Type} (xs : List α) (i : Int) (v w : α) : N.set (N.set xs i v) i w = N.set xs i w := by simp [N.set]

theorem set_at {α : Type} (xs : List α) (i : Nat) (v : α) : N.set xs (i : Int) v = xs.set i v := by simp [N.set]

/-! ## Marks -/
def markL {α : Type} (mk : Int → α → α) (c : Int) : List α → Int → List α
  | [], _ => []
  | x :: xs, k => mk k x :: markL mk c xs (k + c)

theorem markL_len {α : Type} {mk : Int → α → α} {c : Int} : ∀ (xs : List α) (k : Int), (markL mk c xs k).length = xs.length
  | [], _ => rfl
  | x :: xs, k => by simp [markL, markL_len xs]

theorem markL_at {α : Type} {mk : Int → α → α} {c : Int} : ∀ (xs : List α) (k : Int) (i : Nat) (hi : i < xs.length) (hi' : i < (markL mk c xs k).length), (markL mk c xs k)[i] = mk (k + c * i) xs[i]
  | x :: xs, k, 0, _, _ => by simp [markL]
  | x :: xs, k, i + 1, hi, hi' => by
    simp only [markL, List.getElem_cons_succ]
    rw [markL_at xs (k + c) i (by simpa using hi)]
    congr 1
    rw [show ((i + 1 : Nat) : Int) = (i : Int) + 1 from by omega, Int.mul_add, Int.mul_one]; omega

theorem markL_app {α : Type} {mk : Int → α → α} {c : Int} : ∀ (xs ys : List α) (k : Int), markL mk c (xs ++ ys) k = markL mk c xs k ++ markL mk c ys (k + c * xs.length)
  | [], ys, k => by simp [markL]
  | x :: xs, ys, k => by
    simp only [List.cons_append, markL, markL_app xs ys, List.length_cons]
    rw [show ((xs.length + 1 : Nat) : Int) = (xs.length : Int) + 1 from by omega, Int.mul_add, Int.mul_one, show k + c + c * (xs.length : Int) = k + (c * (xs.length : Int) + c) from by omega]

theorem mark_loop {α : Type} {step : Int × Int × List α → Option ((Int × Int × List α) ⊕ (Int × List α))} {c B : Int} {mk : Int → α → α} (hc : 0 ≤ c)
    (hstep : ∀ (k : Int) (i : Nat) (ys : List α) (hi : i < ys.length), 0 ≤ k → k ≤ B → ys.length ≤ 1048576 → step (k, (i : Int), ys) = some (.inl (k + c, ((i + 1 : Nat) : Int), ys.set i (mk k ys[i]))))
    (hend : ∀ (k : Int) (ys : List α), step (k, (ys.length : Int), ys) = some (.inr (k, ys))) {xs : List α} {k : Int} (h0 : 0 ≤ k) (hB : k + c * xs.length ≤ B) (hl : xs.length ≤ 1048576) :
    loopF step (k, 0, xs) = some (k + c * xs.length, markL mk c xs k) := by
  have key : ∀ (m i : Nat), i + m = xs.length → loopF step (k + c * i, (i : Int), markL mk c (xs.take i) k ++ xs.drop i) = some (k + c * xs.length, markL mk c xs k) := by
    intro m
    induction m with
    | zero =>
      intro i hi
      have hi' : i = xs.length := by omega
      subst hi'
      rw [List.take_length, List.drop_length, List.append_nil]
      have := hend (k + c * xs.length) (markL mk c xs k)
      rw [markL_len] at this
      exact loopF_inr this
    | succ m ih =>
      intro i hi
      have hlt : i < xs.length := by omega
      have hle : c * (i : Int) ≤ c * (xs.length : Int) := Int.mul_le_mul_of_nonneg_left (by omega) hc
      have hge : 0 ≤ c * (i : Int) := Int.mul_nonneg hc (by omega)
      have hlen : (markL mk c (xs.take i) k).length = i := by rw [markL_len, List.length_take]; omega
      have hs := hstep (k + c * i) i (markL mk c (xs.take i) k ++ xs.drop i) (by rw [List.length_append, hlen, List.length_drop]; omega) (by omega) (by omega) (by rw [List.length_append, hlen, List.length_drop]; omega)
      rw [loopF_inl hs]
      have e1 : (markL mk c (xs.take i) k ++ xs.drop i)[i]'(by rw [List.length_append, hlen, List.length_drop]; omega) = xs[i] := by
        rw [List.getElem_append_right (by omega)]
        simp only [hlen, Nat.sub_self, List.getElem_drop, Nat.add_zero]
      have e2 : (markL mk c (xs.take i) k ++ xs.drop i).set i (mk (k + c * i) xs[i]) = markL mk c (xs.take (i + 1)) k ++ xs.drop (i + 1) := by
        rw [List.take_succ_eq_append_getElem hlt, markL_app, List.length_take, Nat.min_eq_left (by omega), List.set_append_right _ _ (by omega), hlen, Nat.sub_self, List.drop_eq_getElem_cons hlt, List.set_cons_zero, List.append_assoc]; rfl
      rw [e1, e2, show k + c * (i : Int) + c = k + c * ((i + 1 : Nat) : Int) from by rw [show ((i + 1 : Nat) : Int) = (i : Int) + 1 from by omega, Int.mul_add, Int.mul_one]; omega]
      exact ih (i + 1) (by omega)
  have := key xs.length 0 (by omega)
  simpa [markL] using this

theorem held_loop {α : Type} {step : Int × Int → Option ((Int × Int) ⊕ Int)} {c B : Int} {mk : Int → α → α} {xs : List α} {k : Int} (hc : 0 ≤ c)
    (hstep : ∀ (q : Int) (i : Nat) (hi : i < xs.length) (hi' : i < (markL mk c xs k).length), (markL mk c xs k)[i] = mk q xs[i] → 0 ≤ q → q ≤ B → step (q, (i : Int)) = some (.inl (q + c, ((i + 1 : Nat) : Int))))
    (hend : ∀ (q : Int), step (q, (xs.length : Int)) = some (.inr q)) (h0 : 0 ≤ k) (hB : k + c * xs.length ≤ B) : loopF step (k, 0) = some (k + c * xs.length) := by
  have := loop_upto (step := step) (r := k + c * xs.length) xs.length (fun i (q : Int) => (q, (i : Int))) (fun i => k + c * i) (fun i hi => ?_) ?_
  · simpa using this
  · have hle : c * (i : Int) ≤ c * (xs.length : Int) := Int.mul_le_mul_of_nonneg_left (by omega) hc
    have hge : 0 ≤ c * (i : Int) := Int.mul_nonneg hc (by omega)
    have hi' : i < (markL mk c xs k).length := by rw [markL_len]; exact hi
    rw [hstep (k + c * i) i hi hi' (markL_at xs k i hi hi') (by omega) (by omega)]
    rw [show k + c * (i : Int) + c = k + c * ((i + 1 : Nat) : Int) from by rw [show ((i + 1 : Nat) : Int) = (i : Int) + 1 from by omega, Int.mul_add, Int.mul_one]; omega]
  · rw [hend]

namespace D
def mkIntS (k : Int) (_ : Int) : Int := k

theorem laws_markIntS_is {x : List Int} {k : Int} (h0 : 0 ≤ k) (hk : k ≤ 1000000000000000000) (h : ok x) : laws_markIntS x k = some (k + 1 * x.length, markL mkIntS 1 x k) := by
  have hl := h.1
  refine mark_loop (B := 2000000000000000000) (c := 1) (mk := mkIntS) (by omega) (fun k i ys hi h0 h1 hl => ?_) (fun k ys => ?_) h0 (by omega) hl
  · have i0 : (0 : Int) ≤ (i : Int) := by omega
    have i1 : (i : Int) < (ys.length : Int) := by omega
    have a0 : N.add .i64 (k) 1 = k + 1 := add_id (by omega) (by omega)
    have e : k + 1 = k + 1 := by omega
    simp only [ite_if]; (try simp only [let_eq, len_set]); simp only [set_set, rd_set hi, lt_d, len_d, cond_dec, i0, i1, if_true, a0, eq_d, next_id hi (by omega), e]
    rw [set_at]; rfl
  · simp only [lt_d, len_d, cond_dec]; rw [if_neg (by omega)]

theorem laws_heldIntS_is {x : List Int} {k : Int} (h0 : 0 ≤ k) (hk : k ≤ 1000000000000000000) (h : ok x) : laws_heldIntS (markL mkIntS 1 x k) k = some (k + 1 * x.length) := by
  have hl := h.1
  refine held_loop (B := 2000000000000000000) (c := 1) (mk := mkIntS) (xs := x) (by omega) (fun k i hi hi' hm h0 h1 => ?_) (fun q => ?_) h0 (by omega)
  · have i0 : (0 : Int) ≤ (i : Int) := by omega
    have i1 : (i : Int) < (x.length : Int) := by omega
    have a0 : N.add .i64 (k) 1 = k + 1 := add_id (by omega) (by omega)
    have e : k + 1 = k + 1 := by omega
    simp only [ite_if]; simp only [lt_d, len_d, markL_len, cond_dec, i0, i1, if_true, rd_at _ i hi', hm, mkIntS, a0, eq_d, ne_d, neB_d, next_id hi (by omega), e]
    simp
  · simp only [lt_d, len_d, markL_len, cond_dec]; rw [if_neg (by omega)]

end D
end Go.Sh
set_option linter.unusedVariables false
set_option linter.unusedSimpArgs false
set_option synthInstance.maxSize 100000
set_option maxHeartbeats 1000000
namespace Go.Sh
open Go Data
namespace D
end D
end Go.Sh
set_option linter.unusedVariables false
set_option linter.unusedSimpArgs false
set_option synthInstance.maxSize 100000
set_option maxHeartbeats 1000000
namespace Go.Sh
open Go Data
namespace D
end D
end Go.Sh
set_option linter.unusedVariables false
set_option linter.unusedSimpArgs false
set_option synthInstance.maxSize 100000
set_option maxHeartbeats 1000000
namespace Go.Sh
open Go Data
namespace D
end D
end Go.Sh
set_option linter.unusedVariables false
set_option linter.unusedSimpArgs false
set_option synthInstance.maxSize 100000
set_option maxHeartbeats 1000000
namespace Go.Sh
open Go Data
namespace D
end D
end Go.Sh
set_option linter.unusedVariables false
set_option linter.unusedSimpArgs false
set_option synthInstance.maxSize 100000
set_option maxHeartbeats 1000000
namespace Go.Sh
open Go Data
/-! ## What is drawn: it comes back, and keeps its bounds -/
def Gets {α : Type} (P : α → Prop) (r : Option α) : Prop := ∃ x, r = some x ∧ P x

section
variable {α β S R : Type} {P : α → Prop} {Q : R → Prop}
theorem Gets.bind {x : Option α} {f : α → Option R} (h : Gets P x) (hf : ∀ a, P a → Gets Q (f a)) : Gets Q (N.bind x f) := by
  obtain ⟨a, rfl, ha⟩ := h; exact hf a ha

theorem Gets.cond {b : Bool} {x y : Option R} (h1 : b = true → Gets Q x) (h2 : b = false → Gets Q y) : Gets Q (N.cond b x y) := by
  unfold N.cond; cases b
  · exact h2 rfl
  · exact h1 rfl

theorem Gets.ite {c : Prop} [Decidable c] {x y : Option R} (hc : c) (h : Gets Q x) : Gets Q (N.ite c x y) := by rw [nite_pos hc]; exact h

theorem Gets.let_ {x : α} {f : α → Option R} (h : Gets Q (f x)) : Gets Q (N.let_ x f) := h

theorem Gets.mono {Q' : R → Prop} {x : Option R} (h : Gets Q x) (hq : ∀ a, Q a → Q' a) : Gets Q' x := by
  obtain ⟨a, e, ha⟩ := h; exact ⟨a, e, hq a ha⟩

theorem Gets.loop {step : S → Option (S ⊕ R)} (I : S → Prop) (m : S → Nat)
    (hs : ∀ s, I s → Gets (fun r => match r with | .inl s' => I s' ∧ m s' < m s | .inr r => Q r) (step s)) (s : S) (h : I s) : Gets Q (loopF step s) := by
  generalize hn : m s = n
  induction n using Nat.strongRecOn generalizing s with
  | ind n ih =>
    obtain ⟨r, e, hr⟩ := hs s h
    cases r with
    | inl s' => rw [loopF_inl e]; exact ih (m s') (by rw [← hn]; exact hr.2) s' hr.1 rfl
    | inr r => exact ⟨r, loopF_inr e, hr⟩

end
def few {α : Type} [Data α] (n : Nat) (xs : List α) : Prop := xs.length ≤ n ∧ ∀ x ∈ xs, ok x

theorem few.ok {α : Type} [Data α] {n : Nat} {xs : List α} (h : few n xs) (hn : n ≤ 1048576) : ok xs := ⟨Nat.le_trans h.1 hn, h.2⟩

theorem few.app {α : Type} [Data α] {n m : Nat} {xs : List α} {x : α} (h : few n xs) (hx : Data.ok x) (hm : n + 1 ≤ m) : few m (N.app xs [x]) :=
  ⟨by have := h.1; simp [N.app]; omega, fun y hy => by
    rcases List.mem_append.1 hy with hy | hy
    · exact h.2 y hy
    · simp at hy; subst hy; exact hx⟩

theorem few.set {α : Type} [Data α] {n : Nat} {xs : List α} {x : α} {i : Int} (h : few n xs) (hx : Data.ok x) : few n (N.set xs i x) :=
  ⟨by have := h.1; simp [N.set]; omega, fun y hy => by
    rcases List.mem_or_eq_of_mem_set hy with hy | hy
    · exact h.2 y hy
    · subst hy; exact hx⟩

theorem few.rd {α : Type} [Data α] {n : Nat} {xs : List α} {i : Int} {d : α} (h : few n xs) (hd : Data.ok d) : Data.ok (N.rd xs i d) := by
  unfold N.rd
  rw [List.getD_eq_getElem?_getD]
  cases e : xs[i.toNat]? with
  | none => exact hd
  | some x => exact h.2 x (List.mem_of_getElem? e)

namespace D
theorem few.mono {α : Type} [Data α] {n m : Nat} {xs : List α} (h : few n xs) (hm : n ≤ m) : few m xs := ⟨Nat.le_trans h.1 hm, h.2⟩

end D
end Go.Sh
set_option linter.unusedVariables false
set_option linter.unusedSimpArgs false
set_option synthInstance.maxSize 100000
set_option maxHeartbeats 2000000
namespace Go.Sh
open Go Data
namespace D
end D
end Go.Sh
set_option linter.unusedVariables false
set_option linter.unusedSimpArgs false
set_option synthInstance.maxSize 100000
set_option maxHeartbeats 2000000
namespace Go.Sh
open Go Data
namespace D
end D
end Go.Sh
set_option linter.unusedVariables false
set_option linter.unusedSimpArgs false
set_option synthInstance.maxSize 100000
set_option maxHeartbeats 4000000
namespace Go.Sh
open Go Data
namespace D
end D
end Go.Sh
set_option linter.unusedVariables false
set_option linter.unusedSimpArgs false
set_option synthInstance.maxSize 100000
set_option maxHeartbeats 4000000
namespace Go.Sh
open Go Data
namespace D
end D
end Go.Sh
set_option linter.unusedVariables false
set_option linter.unusedSimpArgs false
set_option synthInstance.maxSize 100000
set_option maxHeartbeats 4000000
namespace Go.Sh
open Go Data
namespace D
end D
end Go.Sh
set_option linter.unusedVariables false
set_option linter.unusedSimpArgs false
set_option synthInstance.maxSize 100000
set_option maxHeartbeats 4000000
namespace Go.Sh
open Go Data
namespace D
end D
end Go.Sh
set_option linter.unusedVariables false
set_option linter.unusedSimpArgs false
set_option synthInstance.maxSize 100000
set_option maxHeartbeats 4000000
namespace Go.Sh
open Go Data
namespace D
/-! ## Marks of nested lists: they come back -/
theorem laws_markIntS_len {x : List Int} {k : Int} (h0 : 0 ≤ k) (hk : k ≤ 1000000000000000000) (hl : x.length ≤ 1048576) : laws_markIntS x k = some (k + 1 * x.length, markL mkIntS 1 x k) := by
  refine mark_loop (B := 2000000000000000000) (c := 1) (mk := mkIntS) (by omega) (fun k i ys hi h0 h1 hl => ?_) (fun k ys => ?_) h0 (by omega) hl
  · have i0 : (0 : Int) ≤ (i : Int) := by omega
    have i1 : (i : Int) < (ys.length : Int) := by omega
    have a0 : N.add .i64 (k) 1 = k + 1 := add_id (by omega) (by omega)
    have e : k + 1 = k + 1 := by omega
    simp only [ite_if]; (try simp only [let_eq, len_set]); simp only [set_set, rd_set hi, lt_d, len_d, cond_dec, i0, i1, if_true, a0, eq_d, next_id hi (by omega), e]
    rw [set_at]; rfl
  · simp only [lt_d, len_d, cond_dec]; rw [if_neg (by omega)]

end D
end Go.Sh
set_option linter.unusedVariables false
set_option linter.unusedSimpArgs false
set_option synthInstance.maxSize 100000
set_option maxHeartbeats 4000000
namespace Go.Sh
open Go Data
/-- marks of lists whose elements hold lists: they come back -/
theorem nest_gets {α : Type} {P : α → Prop} {step : Int × Int × List α → Option ((Int × Int × List α) ⊕ (Int × List α))} {C B : Int} (hC : 0 ≤ C)
    (hstep : ∀ (k : Int) (i : Nat) (ys : List α) (hi : i < ys.length), 0 ≤ k → k ≤ B → ys.length ≤ 1048576 → P ys[i] → Gets (fun r => ∃ k' y, r = .inl (k', ((i + 1 : Nat) : Int), ys.set i y) ∧ k ≤ k' ∧ k' ≤ k + C ∧ P y) (step (k, (i : Int), ys)))
    (hend : ∀ (k : Int) (ys : List α), step (k, (ys.length : Int), ys) = some (.inr (k, ys))) {xs : List α} {k : Int} (h0 : 0 ≤ k) (hB : k + C * xs.length ≤ B) (hl : xs.length ≤ 1048576) (hp : ∀ x ∈ xs, P x) :
    Gets (fun r => k ≤ r.1 ∧ r.1 ≤ k + C * xs.length ∧ r.2.length = xs.length ∧ ∀ y ∈ r.2, P y) (loopF step (k, 0, xs)) := by
  refine Gets.loop (fun s => ∃ i : Nat, s.2.1 = (i : Int) ∧ i ≤ xs.length ∧ k ≤ s.1 ∧ s.1 ≤ k + C * i ∧ s.2.2.length = xs.length ∧ ∀ y ∈ s.2.2, P y) (fun s => xs.length - s.2.1.toNat) (fun s hs => ?_) _ ⟨0, rfl, by omega, by simp, by simp, rfl, hp⟩
  obtain ⟨q, j, ys⟩ := s
  obtain ⟨i, h1, h2, h3, h4, h5, h6⟩ := hs
  simp only at h1 h2 h3 h4 h5 h6
  subst h1
  by_cases hi : i < xs.length
  · have hi' : i < ys.length := by omega
    have hle : C * (i : Int) ≤ C * (xs.length : Int) := Int.mul_le_mul_of_nonneg_left (by omega) hC
    obtain ⟨r, e, k', y, rfl, g1, g2, g3⟩ := hstep q i ys hi' (by omega) (by omega) (by omega) (h6 _ (List.getElem_mem hi'))
    refine ⟨_, e, ⟨i + 1, rfl, by omega, by omega, ?_, by simpa using h5, ?_⟩, by simp only; omega⟩
    · rw [show ((i + 1 : Nat) : Int) = (i : Int) + 1 from by omega, Int.mul_add, Int.mul_one]; omega
    · intro z hz
      rcases List.mem_or_eq_of_mem_set hz with hz | rfl
      · exact h6 z hz
      · exact g3
  · have : i = ys.length := by omega
    subst this
    exact ⟨_, hend q ys, h3, by rw [← h5]; exact h4, h5, h6⟩

namespace D
def holdersP (l : List Library) (x : Int) : List Int := l.flatMap fun a => if a.2.2.1 = true ∧ x ∈ a.2.1 then [a.1] else []

theorem holders_ok {l : List Library} (h : ok l) (x : Int) : ok (holdersP l x) := by
  refine ⟨?_, fun y hy => ?_⟩
  · have := flat_len (f := fun a : Library => if a.2.2.1 = true ∧ x ∈ a.2.1 then [a.1] else []) (m := 1) l (fun a _ => by split <;> simp)
    have := h.1; unfold holdersP; omega
  · obtain ⟨a, ha, hy⟩ := List.mem_flatMap.1 hy
    split at hy
    · simp only [List.mem_singleton] at hy; subst hy; exact (h.2 a ha).1
    · cases hy

theorem spec_HoldersOf_is {l : List Library} (h : ok l) (x : Int) : spec_HoldersOf l x = some (holdersP l x) := by
  have hl := h.1
  refine loop_flat l (fun a => if a.2.2.1 = true ∧ x ∈ a.2.1 then [a.1] else []) (fun k hk => ?_) ?_
  · have h0 : (0 : Int) ≤ (k : Int) := by omega
    have h1 : (k : Int) < (l.length : Int) := by omega
    have h3 := (h.at hk).2.1.1
    have h2 := take_flat_len (f := fun a : Library => if a.2.2.1 = true ∧ x ∈ a.2.1 then [a.1] else []) (m := 1) (xs := l) (fun a _ => by split <;> simp) (Nat.le_of_lt hk)
    simp only [ite_if]; simp only [lt_d, len_d, cond_dec, h0, h1, if_true, rd_at l k hk, spec_l28Has_is (l := (l[k]).2.1) (by omega), bind_some', next_id hk (by omega), cond_if]
    cases hb : (l[k]).2.2.1 with
    | false => simp
    | true =>
      by_cases hx : x ∈ (l[k]).2.1
      · simp only [hx, and_self, if_true]
        rw [if_pos (fitsN (by show (List.flatMap _ (l.take k)).length + 1 ≤ 100000000; omega) (by omega))]; rfl
      · simp [hx]
  · simp only [lt_d, len_d, cond_dec]; rw [if_neg (by omega)]

theorem impl_HoldersOf_is {l : List Library} (h : ok l) (x : Int) : impl_HoldersOf l x = some (holdersP l x) := by
  have hl := h.1
  refine loop_flat l (fun a => if a.2.2.1 = true ∧ x ∈ a.2.1 then [a.1] else []) (fun k hk => ?_) ?_
  · have h0 : (0 : Int) ≤ (k : Int) := by omega
    have h1 : (k : Int) < (l.length : Int) := by omega
    have h3 := (h.at hk).2.1.1
    have h2 := take_flat_len (f := fun a : Library => if a.2.2.1 = true ∧ x ∈ a.2.1 then [a.1] else []) (m := 1) (xs := l) (fun a _ => by split <;> simp) (Nat.le_of_lt hk)
    simp only [ite_if]; simp only [lt_d, len_d, cond_dec, h0, h1, if_true, rd_at l k hk, slices_Contains_int_is (l := (l[k]).2.1) (by omega), bind_some', next_id hk (by omega), cond_if]
    cases hb : (l[k]).2.2.1 with
    | false => simp
    | true =>
      by_cases hx : x ∈ (l[k]).2.1
      · simp only [hx, and_self, if_true]
        rw [if_pos (fitsN (by show (List.flatMap _ (l.take k)).length + 1 ≤ 100000000; omega) (by omega))]; rfl
      · simp [hx]
  · simp only [lt_d, len_d, cond_dec]; rw [if_neg (by omega)]

theorem laws_markLibraryS_gets {x : List Library} {k : Int} (h0 : 0 ≤ k) (hk : k ≤ 1000000000000) (h : ok x) : Gets (fun r => 0 ≤ r.1) (laws_markLibraryS x k) := by
  have hl := h.1
  refine (nest_gets (P := fun a : Library => a.2.1.length ≤ 1048576) (C := 2000000) (B := 10000000000000) (by omega) (fun k i ys hi h0 h1 hl hp => ?_) (fun k ys => ?_) h0 (by omega) hl (fun a ha => (h.2 a ha).2.1.1)).mono fun r hr => by omega
  · have i0 : (0 : Int) ≤ (i : Int) := by omega
    have i1 : (i : Int) < (ys.length : Int) := by omega
    have a0 : N.add .i64 k 1 = k + 1 := add_id (by omega) (by omega)
    simp only [ite_if, let_eq, len_set, set_set, rd_set hi, lt_d, len_d, cond_dec, i0, i1, if_true, a0, rd_at ys i hi, laws_markIntS_len (x := (ys[i]).2.1) (k := k + 1) (by omega) (by omega) hp, bind_some', next_id hi (by omega)]
    have a1 : N.add .i64 (k + 1 + 1 * ((ys[i]).2.1.length : Int)) 1 = k + 1 + 1 * ((ys[i]).2.1.length : Int) + 1 := add_id (by omega) (by omega)
    have a2 : N.add .i64 (k + 1 + 1 * ((ys[i]).2.1.length : Int) + 1) 1 = k + 1 + 1 * ((ys[i]).2.1.length : Int) + 1 + 1 := add_id (by omega) (by omega)
    simp only [a1, a2, set_at, List.length_set, i1, if_true]
    exact ⟨_, rfl, _, _, rfl, by omega, by omega, by simp only [markL_len]; exact hp⟩
  · simp only [lt_d, len_d, cond_dec]; rw [if_neg (by omega)]

theorem FnExactHoldersOf_true (x : List Library) (y : Int) (hx : bd x) (_ : bd y) : laws_FnExactHoldersOf x y = some true := by
  unfold laws_FnExactHoldersOf
  obtain ⟨s, e, hs⟩ := laws_szLibraryS_is x 1048576 hx (by omega) (by omega)
  rw [e, bind_some', lt_d, cond_dec]
  rcases hs with hs | ⟨hk, h0, h1⟩
  · rw [if_pos hs]
  rw [if_neg (by omega)]
  have hr := holders_ok hk y
  have hrl := hr.1
  obtain ⟨⟨k2, y2⟩, em, hm⟩ := laws_markLibraryS_gets (k := 1) (by omega) (by omega) hk
  simp only at hm
  simp only [laws_toLibraryS_is _ hk, bind_some', spec_HoldersOf_is hk, impl_HoldersOf_is hk, laws_eqIntS_is _ _ hr, laws_eqLibraryS_is _ _ hk, em, laws_markIntS_is (k := 1) (by omega) (by omega) hr, laws_heldIntS_is (k := 1) (by omega) (by omega) hr, ne_d, neB_d, not_d, lt_d, cond_dec]
  have e1 : ¬ (k2 < 0) := by omega
  have e2 : ¬ (1 + ((holdersP x y).length : Int) < 0) := by omega
  simp [e1, e2]

end D
end Go.Sh
set_option linter.unusedVariables false
set_option linter.unusedSimpArgs false
set_option synthInstance.maxSize 100000
set_option maxHeartbeats 4000000
namespace Go.Sh
open Go Data
end Go.Sh
