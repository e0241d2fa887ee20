/- The native forms of the functions that FnExactAreLibraries reaches, and their pure laws: FnExactAreLibraries is true for every input of bounded parts. No condition beyond the bounds that every input keeps. -/
import Derived.Test.YtombapmoifkmlaaSh9
set_option linter.unusedVariables false
set_option maxRecDepth 100000
set_option maxHeartbeats 4000000
namespace Go.Sh
open Go
namespace N
def nostr : ByteArray := ByteArray.empty
def lit (l : List UInt8) : ByteArray := ⟨l.toArray⟩
def let_ {α R : Type} (x : α) (f : α → Option R) : Option R := f x
end N
namespace D
abbrev Library : Type := Int × (List Int) × Bool × Bool
noncomputable def laws_szIntS (x0 : List Int) (x1 : Int) : Option (Int) :=
  N.cond (N.lt (N.sub .i64 x1 (N.len x0)) 0)
    (some (-1))
    (some (N.sub .i64 x1 (N.len x0)))

noncomputable def laws_szLibrary (x0 : Library) (x1 : Int) : Option (Int) :=
  N.bind (laws_szIntS x0.2.1 x1) fun r1 =>
    N.cond (N.lt r1 0)
      (some (-1))
      (some r1)

noncomputable def laws_szLibraryS (x0 : List Library) (x1 : Int) : Option (Int) :=
  N.cond (N.lt (N.sub .i64 x1 (N.len x0)) 0)
    (some (-1))
    (
      loopF (fun (s1 : Int × Int) =>
          N.cond (N.lt s1.2 (N.len x0))
            (
              N.ite (0 ≤ s1.2)
                (
                  N.ite (s1.2 < N.len x0)
                    (
                      N.bind (laws_szLibrary (N.rd x0 s1.2 (0, [], false, false)) s1.1) fun r1 =>
                        N.cond (N.lt r1 0)
                          (some (.inr (-1)))
                          (some (.inl (r1, N.add .i64 s1.2 1))))
                    none)
                none)
            (some (.inr s1.1)))
        (N.sub .i64 x1 (N.len x0), 0))

noncomputable def laws_toIntS (x0 : List Int) : Option (List Int) :=
  N.ite (0 ≤ N.len x0)
    (
      N.ite (N.room (N.len x0) 8)
        (
          loopF (fun (s1 : Int × List Int) =>
              N.cond (N.lt s1.1 (N.len x0))
                (
                  N.ite (0 ≤ s1.1)
                    (
                      N.ite (s1.1 < N.len x0)
                        (
                          N.ite (0 ≤ s1.1)
                            (
                              N.ite (s1.1 < N.len s1.2)
                                (some (.inl (N.add .i64 s1.1 1, N.set s1.2 s1.1 (N.rd x0 s1.1 0))))
                                none)
                            none)
                        none)
                    none)
                (some (.inr s1.2)))
            (0, N.rep (N.len x0) (0 : Int)))
        none)
    none

noncomputable def laws_toLibrary (x0 : Library) : Option (Int × (List Int) × Bool × Bool) :=
  N.bind (laws_toIntS x0.2.1) fun r1 =>
    some (x0.1, r1, x0.2.2.1, x0.2.2.2)

noncomputable def laws_toLibraryS (x0 : List Library) : Option (List Library) :=
  N.ite (0 ≤ N.len x0)
    (
      N.ite (N.room (N.len x0) 40)
        (
          loopF (fun (s1 : Int × List Library) =>
              N.cond (N.lt s1.1 (N.len x0))
                (
                  N.ite (0 ≤ s1.1)
                    (
                      N.ite (s1.1 < N.len x0)
                        (
                          N.bind (laws_toLibrary (N.rd x0 s1.1 (0, [], false, false))) fun r1 =>
                            N.ite (0 ≤ s1.1)
                              (
                                N.ite (s1.1 < N.len s1.2)
                                  (some (.inl (N.add .i64 s1.1 1, N.set s1.2 s1.1 r1)))
                                  none)
                              none)
                        none)
                    none)
                (some (.inr s1.2)))
            (0, N.rep (N.len x0) ((0, [], false, false) : Library)))
        none)
    none

noncomputable def laws_eqIntS (x0 : List Int) (x1 : List Int) : Option (Bool) :=
  N.cond (N.ne (N.len x0) (N.len x1))
    (some false)
    (
      loopF (fun (s1 : Int) =>
          N.cond (N.lt s1 (N.len x0))
            (
              N.ite (0 ≤ s1)
                (
                  N.ite (s1 < N.len x0)
                    (
                      N.ite (0 ≤ s1)
                        (
                          N.ite (s1 < N.len x1)
                            (
                              N.cond (N.ne (N.rd x0 s1 0) (N.rd x1 s1 0))
                                (some (.inr false))
                                (some (.inl (N.add .i64 s1 1))))
                            none)
                        none)
                    none)
                none)
            (some (.inr true)))
        0)

noncomputable def laws_eqLibrary (x0 : Library) (x1 : Library) : Option (Bool) :=
  N.cond (N.ne x0.1 x1.1)
    (some false)
    (
      N.bind (laws_eqIntS x0.2.1 x1.2.1) fun r1 =>
        N.cond (N.not r1)
          (some false)
          (
            N.cond (N.neB x0.2.2.1 x1.2.2.1)
              (some false)
              (
                N.cond (N.neB x0.2.2.2 x1.2.2.2)
                  (some false)
                  (some true))))

noncomputable def laws_eqLibraryS (x0 : List Library) (x1 : List Library) : Option (Bool) :=
  N.cond (N.ne (N.len x0) (N.len x1))
    (some false)
    (
      loopF (fun (s1 : Int) =>
          N.cond (N.lt s1 (N.len x0))
            (
              N.ite (0 ≤ s1)
                (
                  N.ite (s1 < N.len x0)
                    (
                      N.ite (0 ≤ s1)
                        (
                          N.ite (s1 < N.len x1)
                            (
                              N.bind (laws_eqLibrary (N.rd x0 s1 (0, [], false, false)) (N.rd x1 s1 (0, [], false, false))) fun r1 =>
                                N.cond (N.not r1)
                                  (some (.inr false))
                                  (some (.inl (N.add .i64 s1 1))))
                            none)
                        none)
                    none)
                none)
            (some (.inr true)))
        0)

noncomputable def spec_l1In (x0 : Int) (x1 : Int) (x2 : Int) : Option (Bool) :=
  N.cond (N.ge x0 x1)
    (some (N.le x0 x2))
    (some false)

noncomputable def impl_InRange (x0 : Int) (x1 : Int) (x2 : Int) : Option (Bool) :=
  N.cond (N.le x1 x0)
    (some (N.le x0 x2))
    (some false)

noncomputable def slices_Equal_int (x0 : List Int) (x1 : List Int) : Option (Bool) :=
  N.cond (N.ne (N.len x0) (N.len x1))
    (some false)
    (
      loopF (fun (s1 : Int) =>
          N.cond (N.lt s1 (N.len x0))
            (
              N.ite (0 ≤ s1)
                (
                  N.ite (s1 < N.len x0)
                    (
                      N.ite (0 ≤ s1)
                        (
                          N.ite (s1 < N.len x1)
                            (
                              N.cond (N.ne (N.rd x0 s1 0) (N.rd x1 s1 0))
                                (some (.inr false))
                                (some (.inl (N.add .i64 s1 1))))
                            none)
                        none)
                    none)
                none)
            (some (.inr true)))
        0)

noncomputable def spec_AreLibraries (x0 : List Library) : Option (Bool) :=
  loopF (fun (s1 : Int) =>
      N.cond (N.lt s1 (N.len x0))
        (
          N.ite (0 ≤ s1)
            (
              N.ite (s1 < N.len x0)
                (
                  N.bind (spec_l1In ((N.rd x0 s1 (0, [], false, false)).1) 0 99) fun r1 =>
                    N.cond (N.not r1)
                      (some (.inr false))
                      (
                        N.cond (N.gt s1 0)
                          (
                            N.ite (0 ≤ N.sub .i64 s1 1)
                              (
                                N.ite (N.sub .i64 s1 1 < N.len x0)
                                  (
                                    N.ite (0 ≤ s1)
                                      (
                                        N.ite (s1 < N.len x0)
                                          (
                                            N.cond (N.ge ((N.rd x0 (N.sub .i64 s1 1) (0, [], false, false)).1) ((N.rd x0 s1 (0, [], false, false)).1))
                                              (some (.inr false))
                                              (
                                                loopF (fun (s2 : Int) =>
                                                    N.ite (0 ≤ s1)
                                                      (
                                                        N.ite (s1 < N.len x0)
                                                          (
                                                            N.cond (N.lt s2 (N.len ((N.rd x0 s1 (0, [], false, false)).2.1)))
                                                              (
                                                                N.ite (0 ≤ s1)
                                                                  (
                                                                    N.ite (s1 < N.len x0)
                                                                      (
                                                                        N.ite (0 ≤ N.sub .i64 s2 1)
                                                                          (
                                                                            N.ite (N.sub .i64 s2 1 < N.len ((N.rd x0 s1 (0, [], false, false)).2.1))
                                                                              (
                                                                                N.ite (0 ≤ s1)
                                                                                  (
                                                                                    N.ite (s1 < N.len x0)
                                                                                      (
                                                                                        N.ite (0 ≤ s2)
                                                                                          (
                                                                                            N.ite (s2 < N.len ((N.rd x0 s1 (0, [], false, false)).2.1))
                                                                                              (
                                                                                                N.cond (N.ge (N.rd ((N.rd x0 s1 (0, [], false, false)).2.1) (N.sub .i64 s2 1) 0) (N.rd ((N.rd x0 s1 (0, [], false, false)).2.1) s2 0))
                                                                                                  (some (.inr (.inr false)))
                                                                                                  (some (.inl (N.add .i64 s2 1))))
                                                                                              none)
                                                                                          none)
                                                                                      none)
                                                                                  none)
                                                                              none)
                                                                          none)
                                                                      none)
                                                                  none)
                                                              (some (.inr (.inl (N.add .i64 s1 1)))))
                                                          none)
                                                      none)
                                                  1))
                                          none)
                                      none)
                                  none)
                              none)
                          (
                            loopF (fun (s3 : Int) =>
                                N.ite (0 ≤ s1)
                                  (
                                    N.ite (s1 < N.len x0)
                                      (
                                        N.cond (N.lt s3 (N.len ((N.rd x0 s1 (0, [], false, false)).2.1)))
                                          (
                                            N.ite (0 ≤ s1)
                                              (
                                                N.ite (s1 < N.len x0)
                                                  (
                                                    N.ite (0 ≤ N.sub .i64 s3 1)
                                                      (
                                                        N.ite (N.sub .i64 s3 1 < N.len ((N.rd x0 s1 (0, [], false, false)).2.1))
                                                          (
                                                            N.ite (0 ≤ s1)
                                                              (
                                                                N.ite (s1 < N.len x0)
                                                                  (
                                                                    N.ite (0 ≤ s3)
                                                                      (
                                                                        N.ite (s3 < N.len ((N.rd x0 s1 (0, [], false, false)).2.1))
                                                                          (
                                                                            N.cond (N.ge (N.rd ((N.rd x0 s1 (0, [], false, false)).2.1) (N.sub .i64 s3 1) 0) (N.rd ((N.rd x0 s1 (0, [], false, false)).2.1) s3 0))
                                                                              (some (.inr (.inr false)))
                                                                              (some (.inl (N.add .i64 s3 1))))
                                                                          none)
                                                                      none)
                                                                  none)
                                                              none)
                                                          none)
                                                      none)
                                                  none)
                                              none)
                                          (some (.inr (.inl (N.add .i64 s1 1)))))
                                      none)
                                  none)
                              1)))
                none)
            none)
        (some (.inr (N.le (N.len x0) 6))))
    0

noncomputable def impl_sorted (x0 : List Int) : Option (List Int) :=
  N.ite (N.len x0 * 8 ≤ 140737488355328)
    (some (N.uniq x0))
    none

noncomputable def impl_ascends (x0 : List Int) : Option (Bool) :=
  N.bind (impl_sorted x0) fun r1 =>
    N.bind (slices_Equal_int r1 x0) fun r2 =>
      some r2

noncomputable def impl_AreLibraries (x0 : List Library) : Option (Bool) :=
  N.cond (N.gt (N.len x0) 6)
    (some false)
    (
      loopF (fun (s1 : Int × Int) =>
          N.cond (N.lt s1.2 (N.len x0))
            (
              N.ite (0 ≤ s1.2)
                (
                  N.ite (s1.2 < N.len x0)
                    (
                      N.bind (impl_InRange ((N.rd x0 s1.2 (0, [], false, false)).1) (N.add .i64 s1.1 1) 99) fun r1 =>
                        N.cond (N.not r1)
                          (some (.inr false))
                          (
                            N.bind (impl_ascends ((N.rd x0 s1.2 (0, [], false, false)).2.1)) fun r2 =>
                              N.cond (N.not r2)
                                (some (.inr false))
                                (some (.inl ((N.rd x0 s1.2 (0, [], false, false)).1, N.add .i64 s1.2 1)))))
                    none)
                none)
            (some (.inr true)))
        ((-1), 0))

noncomputable def laws_FnExactAreLibraries (x0 : List Library) : Option (Bool) :=
  N.bind (laws_szLibraryS x0 1048576) fun r1 =>
    N.cond (N.lt r1 0)
      (some true)
      (
        N.bind (laws_toLibraryS x0) fun r2 =>
          N.bind (spec_AreLibraries r2) fun r3 =>
            N.bind (laws_toLibraryS x0) fun r4 =>
              N.bind (impl_AreLibraries r4) fun r5 =>
                N.cond (N.neB r5 r3)
                  (some false)
                  (
                    N.bind (laws_toLibraryS x0) fun r6 =>
                      N.bind (laws_eqLibraryS r4 r6) fun r7 =>
                        N.cond (N.not r7)
                          (some false)
                          (some true)))

end D
end Go.Sh
set_option linter.unusedVariables false
set_option linter.unusedSimpArgs false
namespace Go.Sh
open Go
/-! ## Loops -/
theorem loopN_det {S R : Type} {step : S → Option (S ⊕ R)} : ∀ {n m : Nat} {s : S} {a b : R}, loopN step n s = some a → loopN step m s = some b → a = b
  | 0, _, _, _, _, h, _ => by simp [loopN] at h
  | _ + 1, 0, _, _, _, _, h => by simp [loopN] at h
  | n + 1, m + 1, s, a, b, h1, h2 => by
    simp only [loopN] at h1 h2
    split at h1
    · cases h1
    · rename_i s' hs; rw [hs] at h2; exact loopN_det h1 h2
    · rename_i r hr; rw [hr] at h2; simp at h1 h2; rw [← h1, ← h2]

theorem loopF_of {S R : Type} {step : S → Option (S ⊕ R)} {s : S} {n : Nat} {r : R} (h : loopN step n s = some r) : loopF step s = some r := by
  have hx : ∃ n r, loopN step n s = some r := ⟨n, r, h⟩
  unfold loopF
  rw [dif_pos hx]
  obtain ⟨m, hm⟩ := Classical.choose_spec hx |> fun h => (⟨_, Classical.choose_spec h⟩ : ∃ v, loopN step (Classical.choose hx) s = some v)
  have := Classical.choose_spec (Classical.choose_spec hx)
  rw [loopN_det this h]

theorem loopF_inr {S R : Type} {step : S → Option (S ⊕ R)} {s : S} {r : R} (h : step s = some (.inr r)) : loopF step s = some r :=
  loopF_of (n := 1) (by simp [loopN, h])

theorem loopF_inl {S R : Type} {step : S → Option (S ⊕ R)} {s s' : S} (h : step s = some (.inl s')) : loopF step s = loopF step s' := by
  by_cases hx : ∃ n r, loopN step n s' = some r
  · obtain ⟨n, r, hn⟩ := hx
    rw [loopF_of hn, loopF_of (n := n + 1) (r := r) (by simp [loopN, h, hn])]
  · have hy : ¬ ∃ n r, loopN step n s = some r := by
      rintro ⟨n, r, hn⟩
      cases n with
      | zero => simp [loopN] at hn
      | succ n => simp only [loopN, h] at hn; exact hx ⟨n, r, hn⟩
    unfold loopF
    rw [dif_neg hx, dif_neg hy]

/-! ## Words -/

section
variable {R α β : Type}
@[simp] theorem bind_some' (x : β) (f : β → Option R) : N.bind (some x) f = f x := rfl

@[simp] theorem cond_true (x y : Option R) : N.cond true x y = x := rfl

@[simp] theorem cond_false (x y : Option R) : N.cond false x y = y := rfl

theorem cond_dec (p : Prop) [Decidable p] (x y : Option R) : N.cond (decide p) x y = if p then x else y := by unfold N.cond; by_cases h : p <;> simp [h]

theorem ite_if (c : Prop) [Decidable c] (x y : Option R) : N.ite c x y = if c then x else y := rfl

theorem nite_pos {c : Prop} [Decidable c] (h : c) (x y : Option R) : N.ite c x y = x := if_pos h

theorem lt_d (a b : Int) : N.lt a b = decide (a < b) := rfl

theorem le_d (a b : Int) : N.le a b = decide (a ≤ b) := rfl

theorem gt_d (a b : Int) : N.gt a b = decide (b < a) := rfl

theorem ge_d (a b : Int) : N.ge a b = decide (b ≤ a) := rfl

theorem ne_d (a b : Int) : N.ne a b = decide (¬ a = b) := by
  unfold N.ne; by_cases h : a = b <;> simp [h]

theorem len_d (xs : List α) : N.len xs = (xs.length : Int) := by simp [N.len]

theorem rd_at (xs : List α) (k : Nat) (hk : k < xs.length) (d : α) : N.rd xs (k : Int) d = xs[k] := by
  simp [N.rd, List.getD, hk]

theorem wrap_id {n : Int} (h1 : -9223372036854775808 ≤ n) (h2 : n < 9223372036854775808) : IntKind.i64.wrap n = n := by
  have e1 : ((2 : Int) ^ IntKind.i64.bits) = 18446744073709551616 := by decide
  have e2 : ((2 : Int) ^ (IntKind.i64.bits - 1)) = 9223372036854775808 := by decide
  have e3 : IntKind.i64.signed = true := rfl
  unfold IntKind.wrap
  rw [e1, e2, e3]
  simp only [Bool.true_and, decide_eq_true_eq]
  split <;> omega

theorem add_id {a b : Int} (h1 : -9223372036854775808 ≤ a + b) (h2 : a + b < 9223372036854775808) : N.add .i64 a b = a + b := wrap_id h1 h2

theorem sub_id {a b : Int} (h1 : -9223372036854775808 ≤ a - b) (h2 : a - b < 9223372036854775808) : N.sub .i64 a b = a - b := wrap_id h1 h2

theorem next_id {k n : Nat} (hk : k < n) (hn : (n : Int) < 9223372036854775808) : N.add .i64 (k : Int) 1 = ((k + 1 : Nat) : Int) := by
  rw [add_id (by omega) (by omega)]; omega

end
end Go.Sh
set_option linter.unusedVariables false
set_option linter.unusedSimpArgs false
namespace Go.Sh
open Go
/-! ## Bounds of data -/
class Data (α : Type) where
  bd : α → Prop
  ok : α → Prop
  le : ∀ x, ok x → bd x

class Flat (α : Type) [Data α] where
  fl : ∀ x : α, Data.bd x → Data.ok x

open Data
instance : Data Int := ⟨fun x => -9223372036854775808 ≤ x ∧ x < 9223372036854775808, fun x => -9223372036854775808 ≤ x ∧ x < 9223372036854775808, fun _ h => h⟩

instance : Data Bool := ⟨fun _ => True, fun _ => True, fun _ h => h⟩

instance : Data ByteArray := ⟨fun s => s.size ≤ 4611686018427387904, fun s => s.size ≤ 4611686018427387904, fun _ h => h⟩

instance {α β : Type} [Data α] [Data β] : Data (α × β) := ⟨fun x => bd x.1 ∧ bd x.2, fun x => ok x.1 ∧ ok x.2, fun x h => ⟨le _ h.1, le _ h.2⟩⟩

instance {α : Type} [Data α] : Data (List α) := ⟨fun xs => xs.length ≤ 4611686018427387904 ∧ ∀ x ∈ xs, bd x, fun xs => xs.length ≤ 1048576 ∧ ∀ x ∈ xs, ok x, fun xs h => ⟨by omega, fun x hx => le x (h.2 x hx)⟩⟩

instance : Flat Int := ⟨fun _ h => h⟩

instance : Flat Bool := ⟨fun _ h => h⟩

instance : Flat ByteArray := ⟨fun _ h => h⟩

instance {α β : Type} [Data α] [Data β] [Flat α] [Flat β] : Flat (α × β) := ⟨fun x h => ⟨Flat.fl _ h.1, Flat.fl _ h.2⟩⟩

section
variable {α : Type} [Data α]
theorem Data.ok.at {xs : List α} (h : ok xs) {k : Nat} (hk : k < xs.length) : ok xs[k] := h.2 _ (List.getElem_mem hk)

theorem Data.bd.at {xs : List α} (h : bd xs) {k : Nat} (hk : k < xs.length) : bd xs[k] := h.2 _ (List.getElem_mem hk)

theorem Data.ok.sub {xs ys : List α} (h : ok xs) (hs : ys.Sublist xs) : ok ys := ⟨Nat.le_trans hs.length_le h.1, fun x hx => h.2 x (hs.subset hx)⟩

end
/-! ## Words, once more -/

section
variable {R α β : Type}
theorem neB_d (a b : Bool) : N.neB a b = decide (¬ a = b) := by cases a <;> cases b <;> rfl

theorem not_d (p : Prop) [Decidable p] : N.not (decide p) = decide (¬ p) := by unfold N.not; by_cases h : p <;> simp [h]

theorem not_b (b : Bool) : N.not b = !b := rfl

/-! ## Copies -/
theorem set_grow {xs ys : List α} {k : Nat} (hk : k < xs.length) (hl : ys.length = xs.length) (h : ys.take k = xs.take k) : (ys.set k xs[k]).take (k + 1) = xs.take (k + 1) := by
  apply List.ext_getElem
  · simp [hl]
  · intro i h1 h2
    simp only [List.length_take, List.length_set] at h1 h2
    simp only [List.getElem_take, List.getElem_set]
    split
    · rename_i e; subst e; rfl
    · have hi : i < k := by omega
      have := congrArg (fun l => l[i]?) h
      simp [List.getElem?_take, hi] at this
      rw [List.getElem?_eq_getElem (by omega), List.getElem?_eq_getElem (by omega)] at this
      simpa using this

/-- an element of a list that is copied -/
def toStep (xs : List α) (d : α) (f : α → Option α) (s1 : Int × List α) : Option ((Int × List α) ⊕ List α) :=
  N.cond (N.lt s1.1 (N.len xs)) (N.ite (0 ≤ s1.1) (N.ite (s1.1 < N.len xs) (N.bind (f (N.rd xs s1.1 d)) fun r1 => N.ite (0 ≤ s1.1) (N.ite (s1.1 < N.len s1.2) (some (.inl (N.add .i64 s1.1 1, N.set s1.2 s1.1 r1))) none) none) none) none) (some (.inr s1.2))

theorem toLoop {xs : List α} {d : α} {f : α → Option α} (hf : ∀ x ∈ xs, f x = some x) (hs : xs.length ≤ 1048576) : loopF (toStep xs d f) (0, N.rep (N.len xs) d) = some xs := by
  have key : ∀ (m k : Nat) (ys : List α), k + m = xs.length → ys.length = xs.length → ys.take k = xs.take k → loopF (toStep xs d f) ((k : Int), ys) = some xs := by
    intro m
    induction m with
    | zero =>
      intro k ys hk hl ht
      refine loopF_inr ?_
      have : ys = xs := by
        rw [show k = xs.length by omega] at ht
        rw [List.take_length, ← hl, List.take_length] at ht
        exact ht
      subst this
      simp only [toStep, lt_d, len_d, cond_dec]
      rw [if_neg (by omega)]
    | succ m ih =>
      intro k ys hk hl ht
      have hlt : k < xs.length := by omega
      rw [loopF_inl (s' := (((k + 1 : Nat) : Int), ys.set k xs[k])) ?_]
      · exact ih (k + 1) _ (by omega) (by simp [hl]) (set_grow hlt hl ht)
      · simp only [toStep, ite_if]; simp only [lt_d, len_d, cond_dec]
        rw [if_pos (by omega), if_pos (by omega), if_pos (by omega), rd_at xs k hlt, hf _ (List.getElem_mem hlt), bind_some', if_pos (by omega), if_pos (by omega), next_id hlt (by omega)]
        rfl
  have := key xs.length 0 (N.rep (N.len xs) d) (by omega) (by simp [N.rep, N.len]) (by simp)
  simpa using this

theorem toS_is {xs : List α} {bytes : Nat} {d : α} {f : α → Option α} (hb : bytes ≤ 10000) (hf : ∀ x ∈ xs, f x = some x) (hs : xs.length ≤ 1048576) :
    N.ite (0 ≤ N.len xs) (N.ite (N.room (N.len xs) bytes) (loopF (toStep xs d f) (0, N.rep (N.len xs) d)) none) none = some xs := by
  rw [nite_pos (by simp [N.len]), nite_pos, toLoop hf hs]
  unfold N.room N.len
  have : (xs.length : Int) * bytes ≤ 1048576 * 10000 := Int.mul_le_mul (by omega) (by omega) (by omega) (by omega)
  omega

/-! ## Comparing -/
def eqStep (xs ys : List α) (d : α) (f : α → α → Option Bool) (s1 : Int) : Option (Int ⊕ Bool) :=
  N.cond (N.lt s1 (N.len xs)) (N.ite (0 ≤ s1) (N.ite (s1 < N.len xs) (N.ite (0 ≤ s1) (N.ite (s1 < N.len ys) (N.bind (f (N.rd xs s1 d) (N.rd ys s1 d)) fun r1 => N.cond (N.not r1) (some (.inr false)) (some (.inl (N.add .i64 s1 1)))) none) none) none) none) (some (.inr true))

theorem eqLoop [DecidableEq α] {xs ys : List α} {d : α} {f : α → α → Option Bool} {r : α → α → Bool} (hf : ∀ x ∈ xs, ∀ y ∈ ys, f x y = some (r x y)) (hs : xs.length ≤ 4611686018427387904) (hl : xs.length = ys.length) :
    loopF (eqStep xs ys d f) 0 = some ((List.zip xs ys).all fun p => r p.1 p.2) := by
  have key : ∀ (m k : Nat), k + m = xs.length → loopF (eqStep xs ys d f) (k : Int) = some ((List.zip (xs.drop k) (ys.drop k)).all fun p => r p.1 p.2) := by
    intro m
    induction m with
    | zero =>
      intro k hk
      rw [loopF_inr (r := true) ?_]
      · rw [List.drop_eq_nil_of_le (by omega)]; simp
      · simp only [eqStep, lt_d, len_d, cond_dec]; rw [if_neg (by omega)]
    | succ m ih =>
      intro k hk
      have hlt : k < xs.length := by omega
      have hlt' : k < ys.length := by omega
      rw [List.drop_eq_getElem_cons hlt, List.drop_eq_getElem_cons hlt']
      have hst : eqStep xs ys d f (k : Int) = N.cond (N.not (r xs[k] ys[k])) (some (.inr false)) (some (.inl ((k + 1 : Nat) : Int))) := by
        simp only [eqStep, ite_if]; simp only [lt_d, len_d, cond_dec]
        rw [if_pos (by omega), if_pos (by omega), if_pos (by omega), if_pos (by omega), if_pos (by omega), rd_at xs k hlt, rd_at ys k hlt', hf _ (List.getElem_mem hlt) _ (List.getElem_mem hlt'), bind_some', next_id hlt (by omega)]
      cases hr : r xs[k] ys[k] with
      | true => rw [loopF_inl (s' := ((k + 1 : Nat) : Int)) (by rw [hst, hr]; rfl), ih (k + 1) (by omega)]; simp only [List.zip_cons_cons, List.all_cons, hr, Bool.true_and]
      | false => rw [loopF_inr (r := false) (by rw [hst, hr]; rfl)]; simp only [List.zip_cons_cons, List.all_cons, hr, Bool.false_and]
  simpa using key xs.length 0 (by omega)

theorem zip_all_eq [DecidableEq α] : ∀ {xs ys : List α}, xs.length = ys.length → ((List.zip xs ys).all fun p => decide (p.1 = p.2)) = decide (xs = ys)
  | [], [], _ => by simp
  | x :: xs, y :: ys, h => by
    simp only [List.zip_cons_cons, List.all_cons, zip_all_eq (xs := xs) (ys := ys) (by simpa using h)]
    by_cases h1 : x = y <;> by_cases h2 : xs = ys <;> simp [h1, h2]
  | [], _ :: _, h => by simp at h
  | _ :: _, [], h => by simp at h

theorem eqS_is [DecidableEq α] {xs ys : List α} {d : α} {f : α → α → Option Bool} (hf : ∀ x ∈ xs, ∀ y, f x y = some (decide (x = y))) (hs : xs.length ≤ 4611686018427387904) :
    N.cond (N.ne (N.len xs) (N.len ys)) (some false) (loopF (eqStep xs ys d f) 0) = some (decide (xs = ys)) := by
  simp only [ne_d, len_d, cond_dec]
  split
  · rename_i h
    have : ¬ xs = ys := fun e => h (by rw [e])
    simp [this]
  · rename_i h
    have hl : xs.length = ys.length := by omega
    rw [eqLoop (r := fun x y => decide (x = y)) (fun x hx y _ => hf x hx y) hs hl, zip_all_eq hl]

/-! ## Sizes -/
def SzOk [Data α] (f : α → Int → Option Int) : Prop := ∀ x left, bd x → 0 ≤ left → left ≤ 1048576 → ∃ r, f x left = some r ∧ (r < 0 ∨ (ok x ∧ 0 ≤ r ∧ r ≤ left))

theorem szFlat_is [Data α] [Flat α] : SzOk (fun (xs : List α) (left : Int) => N.cond (N.lt (N.sub .i64 left (N.len xs)) 0) (some (-1)) (some (N.sub .i64 left (N.len xs)))) := by
  intro xs left hb h0 h1
  have h2 := hb.1
  simp only [len_d, lt_d, cond_dec, sub_id (a := left) (b := (xs.length : Int)) (by omega) (by omega)]
  split
  · exact ⟨-1, rfl, .inl (by omega)⟩
  · exact ⟨_, rfl, .inr ⟨⟨by omega, fun x hx => Flat.fl x (hb.2 x hx)⟩, by omega, by omega⟩⟩

def szStep (xs : List α) (d : α) (f : α → Int → Option Int) (s1 : Int × Int) : Option ((Int × Int) ⊕ Int) :=
  N.cond (N.lt s1.2 (N.len xs)) (N.ite (0 ≤ s1.2) (N.ite (s1.2 < N.len xs) (N.bind (f (N.rd xs s1.2 d) s1.1) fun r1 => N.cond (N.lt r1 0) (some (.inr (-1))) (some (.inl (r1, N.add .i64 s1.2 1)))) none) none) (some (.inr s1.1))

theorem szNest_is [Data α] {d : α} {f : α → Int → Option Int} (hf : SzOk f) : SzOk (fun (xs : List α) (left : Int) => N.cond (N.lt (N.sub .i64 left (N.len xs)) 0) (some (-1)) (loopF (szStep xs d f) (N.sub .i64 left (N.len xs), 0))) := by
  intro xs left hb h0 h1
  have h2 := hb.1
  simp only [len_d, lt_d, cond_dec, sub_id (a := left) (b := (xs.length : Int)) (by omega) (by omega)]
  split
  · exact ⟨-1, rfl, .inl (by omega)⟩
  · have key : ∀ (m k : Nat) (l : Int), k + m = xs.length → 0 ≤ l → l ≤ 1048576 → ∃ r, loopF (szStep xs d f) (l, (k : Int)) = some r ∧ (r < 0 ∨ ((∀ x ∈ xs.drop k, ok x) ∧ 0 ≤ r ∧ r ≤ l)) := by
      intro m
      induction m with
      | zero =>
        intro k l hk hl0 hl1
        refine ⟨l, loopF_inr ?_, .inr ⟨fun x hx => ?_, hl0, by omega⟩⟩
        · simp only [szStep, lt_d, len_d, cond_dec]; rw [if_neg (by omega)]
        · rw [List.drop_eq_nil_of_le (by omega)] at hx; cases hx
      | succ m ih =>
        intro k l hk hl0 hl1
        have hlt : k < xs.length := by omega
        obtain ⟨r, e, h⟩ := hf xs[k] l (hb.at hlt) hl0 hl1
        have hst : szStep xs d f (l, (k : Int)) = if r < 0 then some (.inr (-1)) else some (.inl (r, ((k + 1 : Nat) : Int))) := by
          simp only [szStep, ite_if]; simp only [lt_d, len_d, cond_dec]
          rw [if_pos (by omega), if_pos (by omega), if_pos (by omega), rd_at xs k hlt, e, bind_some', next_id hlt (by omega)]
        rcases h with h | ⟨h3, h4, h5⟩
        · exact ⟨-1, loopF_inr (by rw [hst, if_pos h]), .inl (by omega)⟩
        · obtain ⟨r2, e2, h6⟩ := ih (k + 1) r (by omega) h4 (by omega)
          refine ⟨r2, by rw [loopF_inl (by rw [hst, if_neg (by omega)]), e2], h6.imp id fun ⟨h7, h8, h9⟩ => ⟨fun x hx => ?_, h8, by omega⟩⟩
          rw [List.drop_eq_getElem_cons hlt] at hx
          rcases List.mem_cons.1 hx with rfl | hx
          · exact h3
          · exact h7 x hx
    obtain ⟨r, e, h⟩ := key xs.length 0 (left - xs.length) (by omega) (by omega) (by omega)
    refine ⟨r, e, h.imp id fun ⟨h7, h8, h9⟩ => ⟨⟨by omega, by simpa using h7⟩, h8, by omega⟩⟩

end
end Go.Sh
set_option linter.unusedVariables false
set_option linter.unusedSimpArgs false
set_option synthInstance.maxSize 100000
set_option maxHeartbeats 1000000
namespace Go.Sh
open Go Data
namespace D
theorem laws_szIntS_is : SzOk laws_szIntS := szFlat_is

theorem laws_szLibrary_is : SzOk laws_szLibrary := by
  intro x left hb h0 h1
  unfold laws_szLibrary
  obtain ⟨r0, e0, g0⟩ := laws_szIntS_is _ left hb.2.1 h0 h1
  rw [e0, bind_some']
  rcases g0 with g0 | ⟨k0, l0, m0⟩
  · exact ⟨-1, by (try simp only [lt_d, cond_dec]); rw [if_pos g0], .inl (by omega)⟩
  (try simp only [lt_d, cond_dec]); rw [if_neg (by omega)]
  exact ⟨_, rfl, .inr ⟨⟨Flat.fl _ hb.1, k0, Flat.fl _ hb.2.2.1, Flat.fl _ hb.2.2.2⟩, by omega, by omega⟩⟩

theorem laws_szLibraryS_is : SzOk laws_szLibraryS := szNest_is (d := (0, [], false, false)) laws_szLibrary_is

theorem laws_toIntS_is (x : List Int) (h : ok x) : laws_toIntS x = some x := by
  unfold laws_toIntS
  exact toS_is (d := 0) (f := fun y => some y) (by decide) (fun y hy => rfl) h.1

theorem laws_toLibrary_is (x : Library) (h : ok x) : laws_toLibrary x = some x := by
  unfold laws_toLibrary
  rw [laws_toIntS_is _ h.2.1, bind_some']

theorem laws_toLibraryS_is (x : List Library) (h : ok x) : laws_toLibraryS x = some x := by
  unfold laws_toLibraryS
  exact toS_is (d := (0, [], false, false)) (f := laws_toLibrary) (by decide) (fun y hy => laws_toLibrary_is y (h.2 y hy)) h.1

theorem laws_eqIntS_is (x y : List Int) (h : ok x) : laws_eqIntS x y = some (decide (x = y)) := by
  have e : laws_eqIntS x y = N.cond (N.ne (N.len x) (N.len y)) (some false) (loopF (eqStep x y 0 fun a b => some (decide (a = b))) 0) := by
    unfold laws_eqIntS
    congr 2 <;> (funext s; simp only [eqStep, bind_some', ne_d, not_d, cond_dec]; try simp only [ite_not])
  rw [e]
  exact eqS_is (fun a ha b => rfl) (by have := h.1; omega)

theorem laws_eqLibrary_is (x y : Library) (h : ok x) : laws_eqLibrary x y = some (decide (x = y)) := by
  obtain ⟨a0, a1, a2, a3⟩ := x; obtain ⟨b0, b1, b2, b3⟩ := y
  unfold laws_eqLibrary
  simp only [laws_eqIntS_is _ _ h.2.1, bind_some']
  simp only [ne_d, neB_d, not_d, cond_dec, Prod.mk.injEq]
  by_cases e0 : a0 = b0 <;> by_cases e1 : a1 = b1 <;> by_cases e2 : a2 = b2 <;> by_cases e3 : a3 = b3 <;> simp [e0, e1, e2, e3]

theorem laws_eqLibraryS_is (x y : List Library) (h : ok x) : laws_eqLibraryS x y = some (decide (x = y)) := by
  unfold laws_eqLibraryS
  exact eqS_is (d := (0, [], false, false)) (f := laws_eqLibrary) (fun a ha b => laws_eqLibrary_is a b (h.2 a ha)) (by have := h.1; omega)

end D
end Go.Sh
set_option linter.unusedVariables false
set_option linter.unusedSimpArgs false
set_option synthInstance.maxSize 100000
set_option maxHeartbeats 1000000
namespace Go.Sh
open Go Data
namespace D
theorem spec_l1In_is (a b c : Int) : spec_l1In a b c = some (decide (b ≤ a ∧ a ≤ c)) := by
  unfold spec_l1In
  simp only [ge_d, le_d, cond_dec]
  by_cases h1 : b ≤ a <;> by_cases h2 : a ≤ c <;> simp [h1, h2]

theorem impl_InRange_is (a b c : Int) : impl_InRange a b c = some (decide (b ≤ a ∧ a ≤ c)) := by
  unfold impl_InRange
  simp only [ge_d, le_d, cond_dec]
  by_cases h1 : b ≤ a <;> by_cases h2 : a ≤ c <;> simp [h1, h2]

end D
end Go.Sh
set_option linter.unusedVariables false
set_option linter.unusedSimpArgs false
set_option synthInstance.maxSize 100000
set_option maxHeartbeats 1000000
namespace Go.Sh
open Go Data
/-! ## Loops that look for something -/
theorem loop_find {α S R : Type} {step : S → Option (S ⊕ R)} (xs : List α) (emb : Nat → S) (p : α → Option R) (r0 : R)
    (hstep : ∀ (k : Nat) (hk : k < xs.length), step (emb k) = some (match p xs[k] with | some r => .inr r | none => .inl (emb (k + 1))))
    (hend : step (emb xs.length) = some (.inr r0)) : loopF step (emb 0) = some ((xs.findSome? p).getD r0) := by
  have key : ∀ (m k : Nat), k + m = xs.length → loopF step (emb k) = some (((xs.drop k).findSome? p).getD r0) := by
    intro m
    induction m with
    | zero =>
      intro k hk
      have hk' : k = xs.length := by omega
      subst hk'
      rw [loopF_inr hend, List.drop_length]; rfl
    | succ m ih =>
      intro k hk
      have hlt : k < xs.length := by omega
      rw [List.drop_eq_getElem_cons hlt, List.findSome?_cons]
      cases hp : p xs[k] with
      | none => rw [loopF_inl (s' := emb (k + 1)) (by rw [hstep k hlt, hp]), ih (k + 1) (by omega)]
      | some r => rw [loopF_inr (r := r) (by rw [hstep k hlt, hp])]; rfl
  simpa using key xs.length 0 (by omega)

theorem loop_all {α S : Type} {step : S → Option (S ⊕ Bool)} (xs : List α) (emb : Nat → S) (p : α → Bool)
    (hstep : ∀ (k : Nat) (hk : k < xs.length), step (emb k) = some (if p xs[k] = true then .inl (emb (k + 1)) else .inr false))
    (hend : step (emb xs.length) = some (.inr true)) : loopF step (emb 0) = some (xs.all p) := by
  rw [loop_find xs emb (fun x => if p x = true then none else some false) true (fun k hk => by rw [hstep k hk]; split <;> rfl) hend]
  congr 1
  clear hstep hend
  induction xs with
  | nil => rfl
  | cons y ys ih2 => rw [List.findSome?_cons, List.all_cons]; cases hp : p y <;> simp [ih2]

namespace D
/-! ## Counts -/

end D
end Go.Sh
set_option linter.unusedVariables false
set_option linter.unusedSimpArgs false
set_option synthInstance.maxSize 100000
set_option maxHeartbeats 1000000
namespace Go.Sh
open Go Data
theorem loop_eq2 {α S : Type} [DecidableEq α] {step : S → Option (S ⊕ Bool)} (xs ys : List α) (emb : Nat → S) (hl : xs.length = ys.length)
    (hstep : ∀ (k : Nat) (hk : k < xs.length) (hk' : k < ys.length), step (emb k) = some (if xs[k] = ys[k] then .inl (emb (k + 1)) else .inr false))
    (hend : step (emb xs.length) = some (.inr true)) : loopF step (emb 0) = some (decide (xs = ys)) := by
  rw [← zip_all_eq hl]
  refine loop_all (xs.zip ys) emb (fun p => decide (p.1 = p.2)) (fun k hk => ?_) ?_
  · have h1 : k < xs.length := by simp at hk; omega
    rw [hstep k h1 (by omega)]
    simp only [List.getElem_zip, decide_eq_true_eq]
  · rw [List.length_zip, ← hl, Nat.min_self]; exact hend

namespace D
theorem eq_len {α : Type} [DecidableEq α] {x y : List α} {K : Option Bool} (h : x.length = y.length → K = some (decide (x = y))) : N.cond (N.ne (N.len x) (N.len y)) (some false) K = some (decide (x = y)) := by
  simp only [ne_d, len_d, cond_dec]
  split
  · rename_i h1
    have : ¬ x = y := fun e => h1 (by rw [e])
    simp [this]
  · exact h (by omega)

theorem slices_Equal_int_is {x y : List Int} (h : x.length ≤ 4611686018427387904) : slices_Equal_int x y = some (decide (x = y)) := by
  refine eq_len fun hl => loop_eq2 x y (fun k => (k : Int)) hl (fun k hk hk' => ?_) ?_
  · have h0 : (0 : Int) ≤ (k : Int) := by omega
    have h1 : (k : Int) < (x.length : Int) := by omega
    have h2 : (k : Int) < (y.length : Int) := by omega
    simp only [ite_if]; simp only [lt_d, len_d, cond_dec, h0, h1, h2, if_true, rd_at x k hk, rd_at y k hk', ne_d, next_id hk (by omega)]
    by_cases e : x[k] = y[k] <;> simp [e]
  · simp only [lt_d, len_d, cond_dec]; rw [if_neg (by omega)]

end D
end Go.Sh
set_option linter.unusedVariables false
set_option linter.unusedSimpArgs false
set_option synthInstance.maxSize 100000
set_option maxHeartbeats 1000000
namespace Go.Sh
open Go Data
namespace D
end D
end Go.Sh
set_option linter.unusedVariables false
set_option linter.unusedSimpArgs false
set_option synthInstance.maxSize 100000
set_option maxHeartbeats 1000000
namespace Go.Sh
open Go Data
namespace D
end D
end Go.Sh
set_option linter.unusedVariables false
set_option linter.unusedSimpArgs false
set_option synthInstance.maxSize 100000
set_option maxHeartbeats 1000000
namespace Go.Sh
open Go Data
namespace D
end D
end Go.Sh
set_option linter.unusedVariables false
set_option linter.unusedSimpArgs false
set_option synthInstance.maxSize 100000
set_option maxHeartbeats 1000000
namespace Go.Sh
open Go Data
namespace D
end D
end Go.Sh
set_option linter.unusedVariables false
set_option linter.unusedSimpArgs false
set_option synthInstance.maxSize 100000
set_option maxHeartbeats 1000000
namespace Go.Sh
open Go Data
namespace D
end D
end Go.Sh
set_option linter.unusedVariables false
set_option linter.unusedSimpArgs false
set_option synthInstance.maxSize 100000
set_option maxHeartbeats 1000000
namespace Go.Sh
open Go Data
namespace D
end D
end Go.Sh
set_option linter.unusedVariables false
set_option linter.unusedSimpArgs false
set_option synthInstance.maxSize 100000
set_option maxHeartbeats 1000000
namespace Go.Sh
open Go Data
namespace D
end D
end Go.Sh
set_option linter.unusedVariables false
set_option linter.unusedSimpArgs false
set_option synthInstance.maxSize 100000
set_option maxHeartbeats 1000000
namespace Go.Sh
open Go Data
/-! ## What is drawn: it comes back, and keeps its bounds -/
def Gets {α : Type} (P : α → Prop) (r : Option α) : Prop := ∃ x, r = some x ∧ P x

section
variable {α β S R : Type} {P : α → Prop} {Q : R → Prop}
theorem Gets.bind {x : Option α} {f : α → Option R} (h : Gets P x) (hf : ∀ a, P a → Gets Q (f a)) : Gets Q (N.bind x f) := by
  obtain ⟨a, rfl, ha⟩ := h; exact hf a ha

theorem Gets.cond {b : Bool} {x y : Option R} (h1 : b = true → Gets Q x) (h2 : b = false → Gets Q y) : Gets Q (N.cond b x y) := by
  unfold N.cond; cases b
  · exact h2 rfl
  · exact h1 rfl

theorem Gets.ite {c : Prop} [Decidable c] {x y : Option R} (hc : c) (h : Gets Q x) : Gets Q (N.ite c x y) := by rw [nite_pos hc]; exact h

end
def few {α : Type} [Data α] (n : Nat) (xs : List α) : Prop := xs.length ≤ n ∧ ∀ x ∈ xs, ok x

theorem few.ok {α : Type} [Data α] {n : Nat} {xs : List α} (h : few n xs) (hn : n ≤ 1048576) : ok xs := ⟨Nat.le_trans h.1 hn, h.2⟩

theorem few.set {α : Type} [Data α] {n : Nat} {xs : List α} {x : α} {i : Int} (h : few n xs) (hx : Data.ok x) : few n (N.set xs i x) :=
  ⟨by have := h.1; simp [N.set]; omega, fun y hy => by
    rcases List.mem_or_eq_of_mem_set hy with hy | hy
    · exact h.2 y hy
    · subst hy; exact hx⟩

theorem few.rd {α : Type} [Data α] {n : Nat} {xs : List α} {i : Int} {d : α} (h : few n xs) (hd : Data.ok d) : Data.ok (N.rd xs i d) := by
  unfold N.rd
  rw [List.getD_eq_getElem?_getD]
  cases e : xs[i.toNat]? with
  | none => exact hd
  | some x => exact h.2 x (List.mem_of_getElem? e)

namespace D
end D
end Go.Sh
set_option linter.unusedVariables false
set_option linter.unusedSimpArgs false
set_option synthInstance.maxSize 100000
set_option maxHeartbeats 2000000
namespace Go.Sh
open Go Data
namespace D
end D
end Go.Sh
set_option linter.unusedVariables false
set_option linter.unusedSimpArgs false
set_option synthInstance.maxSize 100000
set_option maxHeartbeats 2000000
namespace Go.Sh
open Go Data
namespace D
end D
end Go.Sh
set_option linter.unusedVariables false
set_option linter.unusedSimpArgs false
set_option synthInstance.maxSize 100000
set_option maxHeartbeats 4000000
namespace Go.Sh
open Go Data
namespace D
end D
end Go.Sh
set_option linter.unusedVariables false
set_option linter.unusedSimpArgs false
set_option synthInstance.maxSize 100000
set_option maxHeartbeats 4000000
namespace Go.Sh
open Go Data
namespace D
end D
end Go.Sh
set_option linter.unusedVariables false
set_option linter.unusedSimpArgs false
set_option synthInstance.maxSize 100000
set_option maxHeartbeats 4000000
namespace Go.Sh
open Go Data
namespace D
end D
end Go.Sh
set_option linter.unusedVariables false
set_option linter.unusedSimpArgs false
set_option synthInstance.maxSize 100000
set_option maxHeartbeats 4000000
namespace Go.Sh
open Go Data
namespace D
end D
end Go.Sh
set_option linter.unusedVariables false
set_option linter.unusedSimpArgs false
set_option synthInstance.maxSize 100000
set_option maxHeartbeats 4000000
namespace Go.Sh
open Go Data
namespace D
end D
end Go.Sh
set_option linter.unusedVariables false
set_option linter.unusedSimpArgs false
set_option synthInstance.maxSize 100000
set_option maxHeartbeats 4000000
namespace Go.Sh
open Go Data
namespace D
end D
end Go.Sh
set_option linter.unusedVariables false
set_option linter.unusedSimpArgs false
set_option synthInstance.maxSize 100000
set_option maxHeartbeats 4000000
namespace Go.Sh
open Go Data
end Go.Sh
set_option linter.unusedVariables false
set_option linter.unusedSimpArgs false
set_option synthInstance.maxSize 100000
set_option maxHeartbeats 4000000
namespace Go.Sh
open Go Data
namespace D
end D
end Go.Sh
set_option linter.unusedVariables false
set_option linter.unusedSimpArgs false
set_option synthInstance.maxSize 100000
set_option maxHeartbeats 4000000
namespace Go.Sh
open Go Data
namespace D
end D
end Go.Sh
set_option linter.unusedVariables false
set_option linter.unusedSimpArgs false
set_option synthInstance.maxSize 100000
set_option maxHeartbeats 4000000
namespace Go.Sh
open Go Data
namespace D
end D
end Go.Sh
set_option linter.unusedVariables false
set_option linter.unusedSimpArgs false
set_option synthInstance.maxSize 100000
set_option maxHeartbeats 4000000
namespace Go.Sh
open Go Data
namespace D
end D
end Go.Sh
set_option linter.unusedVariables false
set_option linter.unusedSimpArgs false
set_option synthInstance.maxSize 100000
set_option maxHeartbeats 4000000
namespace Go.Sh
open Go Data
namespace D
end D
end Go.Sh
set_option linter.unusedVariables false
set_option linter.unusedSimpArgs false
set_option synthInstance.maxSize 100000
set_option maxHeartbeats 4000000
namespace Go.Sh
open Go Data
namespace D
end D
end Go.Sh
set_option linter.unusedVariables false
set_option linter.unusedSimpArgs false
set_option synthInstance.maxSize 100000
set_option maxHeartbeats 4000000
namespace Go.Sh
open Go Data
namespace D
end D
end Go.Sh
set_option linter.unusedVariables false
set_option linter.unusedSimpArgs false
set_option synthInstance.maxSize 100000
set_option maxHeartbeats 4000000
namespace Go.Sh
open Go Data
namespace D
end D
end Go.Sh
set_option linter.unusedVariables false
set_option linter.unusedSimpArgs false
set_option synthInstance.maxSize 100000
set_option maxHeartbeats 4000000
namespace Go.Sh
open Go Data
namespace D
end D
end Go.Sh
set_option linter.unusedVariables false
set_option linter.unusedSimpArgs false
set_option synthInstance.maxSize 100000
set_option maxHeartbeats 4000000
namespace Go.Sh
open Go Data
namespace D
end D
end Go.Sh
set_option linter.unusedVariables false
set_option linter.unusedSimpArgs false
set_option synthInstance.maxSize 100000
set_option maxHeartbeats 4000000
namespace Go.Sh
open Go Data
namespace D
end D
end Go.Sh
set_option linter.unusedVariables false
set_option linter.unusedSimpArgs false
set_option synthInstance.maxSize 100000
set_option maxHeartbeats 4000000
namespace Go.Sh
open Go Data
namespace D
end D
end Go.Sh
set_option linter.unusedVariables false
set_option linter.unusedSimpArgs false
set_option synthInstance.maxSize 100000
set_option maxHeartbeats 4000000
namespace Go.Sh
open Go Data
namespace D
end D
end Go.Sh
set_option linter.unusedVariables false
set_option linter.unusedSimpArgs false
set_option synthInstance.maxSize 100000
set_option maxHeartbeats 4000000
namespace Go.Sh
open Go Data
namespace D
end D
end Go.Sh
set_option linter.unusedVariables false
set_option linter.unusedSimpArgs false
set_option synthInstance.maxSize 100000
set_option maxHeartbeats 4000000
namespace Go.Sh
open Go Data
namespace D
end D
end Go.Sh
set_option linter.unusedVariables false
set_option linter.unusedSimpArgs false
set_option synthInstance.maxSize 100000
set_option maxHeartbeats 4000000
namespace Go.Sh
open Go Data
namespace D
end D
end Go.Sh
set_option linter.unusedVariables false
set_option linter.unusedSimpArgs false
set_option synthInstance.maxSize 100000
set_option maxHeartbeats 4000000
namespace Go.Sh
open Go Data
namespace D
end D
end Go.Sh
set_option linter.unusedVariables false
set_option linter.unusedSimpArgs false
set_option synthInstance.maxSize 100000
set_option maxHeartbeats 4000000
namespace Go.Sh
open Go Data
namespace D
end D
end Go.Sh
set_option linter.unusedVariables false
set_option linter.unusedSimpArgs false
set_option maxRecDepth 100000
set_option maxHeartbeats 4000000
namespace Go.Sh
open Go Data
namespace D
end D
end Go.Sh
set_option linter.unusedVariables false
set_option linter.unusedSimpArgs false
set_option synthInstance.maxSize 100000
set_option maxHeartbeats 4000000
namespace Go.Sh
open Go Data
namespace D
end D
end Go.Sh
set_option linter.unusedVariables false
set_option linter.unusedSimpArgs false
set_option synthInstance.maxSize 100000
set_option maxHeartbeats 4000000
namespace Go.Sh
open Go Data
theorem find_if {α R : Type} (p : α → Bool) (a r0 : R) : ∀ (xs : List α), ((xs.findSome? fun x => if p x = true then none else some a).getD r0) = if xs.all p = true then r0 else a
  | [] => rfl
  | x :: xs => by
    rw [List.findSome?_cons, List.all_cons]
    cases h : p x
    · simp
    · simpa using find_if p a r0 xs

namespace D
/-! ## Numbers that ascend -/
theorem compact_asc {zs : List Int} (h : zs.Pairwise fun x y => x ≤ y) : (Lib.compact zs).Pairwise fun x y => x < y := by
  unfold Lib.compact Lib.compactUpTo
  rw [List.pairwise_map, List.pairwise_filter]
  refine List.Pairwise.imp_of_mem ?_ List.pairwise_lt_range
  intro i j hi hj hij h1 h2
  rw [List.mem_range] at hi hj
  unfold Lib.keeps at h2
  simp only [decide_eq_true_eq] at h2
  have e : ∀ k, k < zs.length → zs.toArray[k]! = zs[k]! := fun k hk => by simp
  rw [e i hi, e j hj]
  rw [e j hj, e (j - 1) (by omega)] at h2
  have hs := List.pairwise_iff_getElem.1 h
  have a1 : zs[i]! ≤ zs[j - 1]! := by
    rw [getElem!_pos zs i hi, getElem!_pos zs (j - 1) (by omega)]
    by_cases hh : i = j - 1
    · subst hh; exact Int.le_refl _
    · exact hs i (j - 1) hi (by omega) (by omega)
  have a2 : zs[j - 1]! ≤ zs[j]! := by
    rw [getElem!_pos zs j hj, getElem!_pos zs (j - 1) (by omega)]
    exact hs (j - 1) j (by omega) hj (by omega)
  have a3 : zs[j]! ≠ zs[j - 1]! := h2.resolve_left (by omega)
  omega

theorem uniq_asc (l : List Int) : (N.uniq l).Pairwise fun x y => x < y := by
  unfold N.uniq
  refine compact_asc ?_
  have := List.pairwise_mergeSort (le := fun x y : Int => decide (x ≤ y)) (fun a b c h1 h2 => by simp only [decide_eq_true_eq] at *; omega) (fun a b => by simp only [Bool.or_eq_true, decide_eq_true_eq]; omega) l
  exact this.imp fun h => of_decide_eq_true h

theorem uniq_same {l : List Int} (h : l.Pairwise fun x y => x < y) : N.uniq l = l := by
  unfold N.uniq
  rw [List.mergeSort_of_pairwise (h.imp fun hh => decide_eq_true (Int.le_of_lt hh))]
  refine Lib.compact_all l fun j hj => ?_
  unfold Lib.keeps
  simp only [decide_eq_true_eq]
  by_cases h0 : j = 0
  · exact .inl h0
  · right
    have := List.pairwise_iff_getElem.1 h (j - 1) j (by omega) hj (by omega)
    rw [show l.toArray[j]! = l[j] by simp [hj], show l.toArray[j - 1]! = l[j - 1] by simp [show j - 1 < l.length by omega]]
    omega

def ascP (l : List Int) : Bool := (List.range (l.length - 1)).all fun k => decide (l.getD k 0 < l.getD (k + 1) 0)

theorem ascP_iff (l : List Int) : ascP l = true ↔ l.Pairwise fun x y => x < y := by
  unfold ascP
  rw [List.all_eq_true]
  constructor
  · intro h
    have adj : ∀ k, (hk : k + 1 < l.length) → l[k] < l[k + 1] := fun k hk => by
      have := h k (List.mem_range.2 (by omega))
      simp only [decide_eq_true_eq] at this
      rw [List.getD_eq_getElem?_getD, List.getD_eq_getElem?_getD, List.getElem?_eq_getElem (by omega), List.getElem?_eq_getElem hk] at this
      exact this
    rw [List.pairwise_iff_getElem]
    intro i j hi hj hij
    induction j with
    | zero => omega
    | succ j ih =>
      by_cases hh : i = j
      · subst hh; exact adj i hj
      · have := ih (by omega) (by omega)
        have := adj j hj
        omega
  · intro h k hk
    rw [List.mem_range] at hk
    have := List.pairwise_iff_getElem.1 h k (k + 1) (by omega) (by omega) (by omega)
    simp only [decide_eq_true_eq]
    rw [List.getD_eq_getElem?_getD, List.getD_eq_getElem?_getD, List.getElem?_eq_getElem (by omega), List.getElem?_eq_getElem (by omega)]
    exact this

theorem impl_ascends_is {l : List Int} (h : l.length ≤ 1048576) : impl_ascends l = some (ascP l) := by
  unfold impl_ascends impl_sorted
  have hlen : (N.uniq l).length ≤ l.length := by
    unfold N.uniq
    have := Lib.compact_length_le (l.mergeSort fun x y => decide (x ≤ y))
    rw [List.length_mergeSort] at this
    exact this
  rw [nite_pos (by rw [len_d]; omega), bind_some', slices_Equal_int_is (by omega), bind_some']
  congr 1
  by_cases ha : l.Pairwise fun x y => x < y
  · rw [(ascP_iff l).2 ha, decide_eq_true (uniq_same ha)]
  · have : ascP l = false := by
      cases hc : ascP l with
      | false => rfl
      | true => exact absurd ((ascP_iff l).1 hc) ha
    rw [this, decide_eq_false]
    intro e
    exact ha (e ▸ uniq_asc l)

/-! ## Libraries -/
def idAt (l : List Library) (i : Nat) : Int := (N.rd l (i : Int) (0, [], false, false)).1

def digAt (l : List Library) (i : Nat) : List Int := (N.rd l (i : Int) (0, [], false, false)).2.1

def okAt (l : List Library) (i : Nat) : Bool := decide (0 ≤ idAt l i ∧ idAt l i ≤ 99) && (decide (i = 0) || decide (idAt l (i - 1) < idAt l i)) && ascP (digAt l i)

def befAt (l : List Library) (i : Nat) : Int := if i = 0 then -1 else idAt l (i - 1)

def okI (l : List Library) (i : Nat) : Bool := decide (N.add .i64 (befAt l i) 1 ≤ idAt l i ∧ idAt l i ≤ 99) && ascP (digAt l i)

theorem ok_same (l : List Library) : (List.range l.length).all (okI l) = (List.range l.length).all (okAt l) := by
  rw [Bool.eq_iff_iff, List.all_eq_true, List.all_eq_true]
  have key : ∀ n, (∀ i, i < n → okI l i = true) ↔ (∀ i, i < n → okAt l i = true) := by
    intro n
    induction n with
    | zero => exact ⟨fun _ i h => absurd h (Nat.not_lt_zero _), fun _ i h => absurd h (Nat.not_lt_zero _)⟩
    | succ n ih =>
      have step : (∀ i, i < n → okAt l i = true) → (okI l n = true ↔ okAt l n = true) := by
        intro hp
        unfold okI okAt befAt
        by_cases h0 : n = 0
        · subst h0
          simp only [if_true, Bool.and_eq_true, decide_eq_true_eq, Bool.or_eq_true, true_or, and_true]
          have e : N.add .i64 (-1) 1 = 0 := add_id (by omega) (by omega)
          rw [e]
        · have hq := hp (n - 1) (by omega)
          unfold okAt at hq
          simp only [Bool.and_eq_true, decide_eq_true_eq] at hq
          have e : N.add .i64 (idAt l (n - 1)) 1 = idAt l (n - 1) + 1 := add_id (by omega) (by omega)
          simp only [h0, if_false, Bool.and_eq_true, decide_eq_true_eq, Bool.or_eq_true, false_or, e]
          constructor
          · rintro ⟨⟨a, b⟩, c⟩; exact ⟨⟨⟨by omega, b⟩, by omega⟩, c⟩
          · rintro ⟨⟨⟨a, b⟩, c⟩, d⟩; exact ⟨⟨by omega, b⟩, d⟩
      constructor
      · intro h
        have hp := ih.1 fun i hi => h i (by omega)
        intro i hi
        by_cases hh : i = n
        · subst hh; exact (step hp).1 (h i hi)
        · exact hp i (by omega)
      · intro h
        have hp : ∀ i, i < n → okAt l i = true := fun i hi => h i (by omega)
        intro i hi
        by_cases hh : i = n
        · subst hh; exact (step hp).2 (h i hi)
        · exact ih.2 hp i (by omega)
  have := key l.length
  simpa [List.mem_range] using this

def libsP (l : List Library) : Bool := decide (l.length ≤ 6) && (List.range l.length).all (okAt l)

theorem dig_ok {l : List Library} (h : ok l) {i : Nat} (hi : i < l.length) : (digAt l i).length ≤ 1048576 := by
  unfold digAt
  rw [rd_at l i hi]
  exact (h.at hi).2.1.1

theorem impl_AreLibraries_is {l : List Library} (h : ok l) : impl_AreLibraries l = some (libsP l) := by
  have hl := h.1
  unfold impl_AreLibraries libsP
  rw [gt_d, len_d, cond_dec]
  by_cases h6 : (6 : Int) < (l.length : Int)
  · rw [if_pos h6, decide_eq_false (show ¬ l.length ≤ 6 by omega)]; rfl
  rw [if_neg h6, decide_eq_true (show l.length ≤ 6 by omega), Bool.true_and, ← ok_same]
  refine (loop_find (R := Bool) (S := Int × Int) (List.range l.length) (fun k => (befAt l k, (k : Int))) (fun k => if okI l k = true then none else some false) true (fun k hk => ?_) ?_).trans ?_
  · rw [List.length_range] at hk
    have h0 : (0 : Int) ≤ (k : Int) := by omega
    have h1 : (k : Int) < (l.length : Int) := by omega
    have hd := dig_ok h hk
    rw [List.getElem_range]
    simp only [lt_d, len_d, nite_pos h0, nite_pos h1, impl_InRange_is, bind_some', next_id hk (by omega)]
    rw [decide_eq_true h1, cond_true, impl_ascends_is (l := (N.rd l (k : Int) (0, [], false, false)).2.1) hd, bind_some']
    have hb : befAt l (k + 1) = (N.rd l (k : Int) (0, [], false, false)).1 := rfl
    rw [hb]
    have ho : okI l k = (decide (N.add .i64 (befAt l k) 1 ≤ (N.rd l (k : Int) (0, [], false, false)).1 ∧ (N.rd l (k : Int) (0, [], false, false)).1 ≤ 99) && ascP (N.rd l (k : Int) (0, [], false, false)).2.1) := rfl
    rw [ho]
    cases decide (N.add .i64 (befAt l k) 1 ≤ (N.rd l (k : Int) (0, [], false, false)).1 ∧ (N.rd l (k : Int) (0, [], false, false)).1 ≤ 99) <;> cases ascP (N.rd l (k : Int) (0, [], false, false)).2.1 <;> rfl
  · rw [List.length_range]
    simp only [lt_d, len_d]
    rw [decide_eq_false (Int.lt_irrefl _), cond_false]
  · rw [find_if]
    cases (List.range l.length).all (okI l) <;> rfl

theorem spec_AreLibraries_is {l : List Library} (h : ok l) : spec_AreLibraries l = some (libsP l) := by
  have hl := h.1
  unfold spec_AreLibraries libsP
  refine (loop_find (R := Bool) (S := Int) (List.range l.length) (fun k => (k : Int)) (fun k => if okAt l k = true then none else some false) (decide (l.length ≤ 6)) (fun k hk => ?_) ?_).trans ?_
  · rw [List.length_range] at hk
    have h0 : (0 : Int) ≤ (k : Int) := by omega
    have h1 : (k : Int) < (l.length : Int) := by omega
    have hd := dig_ok h hk
    rw [List.getElem_range]
    have inner : ∀ (f : Int → Option (Int ⊕ (Int ⊕ Bool))), (∀ s2, f s2 = N.cond (N.lt s2 (N.len (digAt l k))) (N.ite (0 ≤ N.sub .i64 s2 1) (N.ite (N.sub .i64 s2 1 < N.len (digAt l k)) (N.ite (0 ≤ s2) (N.ite (s2 < N.len (digAt l k)) (N.cond (N.ge (N.rd (digAt l k) (N.sub .i64 s2 1) 0) (N.rd (digAt l k) s2 0)) (some (.inr (.inr false))) (some (.inl (N.add .i64 s2 1)))) none) none) none) none) (some (.inr (.inl (N.add .i64 (k : Int) 1))))) →
        loopF f 1 = some (if ascP (digAt l k) = true then .inl (N.add .i64 (k : Int) 1) else .inr false) := fun f hf => by
      generalize digAt l k = d at hd hf ⊢
      have := loop_find (R := Int ⊕ Bool) (S := Int) (step := f) (List.range (d.length - 1)) (fun j => ((j + 1 : Nat) : Int)) (fun j => if decide (d.getD j 0 < d.getD (j + 1) 0) = true then none else some (.inr false)) (.inl (N.add .i64 (k : Int) 1)) (fun j hj => ?_) ?_
      · rw [find_if] at this
        exact this
      · rw [List.length_range] at hj
        rw [hf, List.getElem_range]
        have e1 : N.sub .i64 ((j + 1 : Nat) : Int) 1 = (j : Int) := by rw [sub_id (by omega) (by omega)]; omega
        have e2 : N.add .i64 ((j + 1 : Nat) : Int) 1 = ((j + 1 + 1 : Nat) : Int) := by rw [add_id (by omega) (by omega)]; omega
        have q1 : (((j + 1 : Nat) : Int) < (d.length : Int)) := by omega
        have r1 : N.rd d (j : Int) 0 = d.getD j 0 := by unfold N.rd; rw [Int.toNat_natCast]
        have r2 : N.rd d ((j + 1 : Nat) : Int) 0 = d.getD (j + 1) 0 := by unfold N.rd; rw [Int.toNat_natCast]
        rw [e1, e2, r1, r2, lt_d, len_d, decide_eq_true q1, cond_true, nite_pos (by omega), nite_pos (by omega), nite_pos (by omega), nite_pos q1, ge_d]
        by_cases hc : d.getD j 0 < d.getD (j + 1) 0
        · rw [decide_eq_false (by omega), cond_false, decide_eq_true hc]; rfl
        · rw [decide_eq_true (by omega), cond_true, decide_eq_false hc]; rfl
      · rw [List.length_range, hf, lt_d, len_d, decide_eq_false (by omega), cond_false]
    simp only [lt_d, len_d, nite_pos h0, nite_pos h1, spec_l1In_is, bind_some']
    rw [decide_eq_true h1, cond_true]
    have ho : okAt l k = (decide (0 ≤ (N.rd l (k : Int) (0, [], false, false)).1 ∧ (N.rd l (k : Int) (0, [], false, false)).1 ≤ 99) && (decide (k = 0) || decide (idAt l (k - 1) < (N.rd l (k : Int) (0, [], false, false)).1)) && ascP (digAt l k)) := rfl
    rw [ho]
    have hn : N.add .i64 (k : Int) 1 = ((k + 1 : Nat) : Int) := next_id hk (by omega)
    cases decide (0 ≤ (N.rd l (k : Int) (0, [], false, false)).1 ∧ (N.rd l (k : Int) (0, [], false, false)).1 ≤ 99) with
    | false => rfl
    | true =>
      rw [not_b, Bool.not_true, cond_false, gt_d, Bool.true_and]
      by_cases hk0 : k = 0
      · rw [decide_eq_false (show ¬ (0 : Int) < (k : Int) by omega), cond_false, inner _ (fun s2 => by rw [lt_d, len_d]; rfl), decide_eq_true hk0, Bool.true_or, Bool.true_and, hn]
        cases ascP (digAt l k) <;> rfl
      · have e1 : N.sub .i64 (k : Int) 1 = ((k - 1 : Nat) : Int) := by rw [sub_id (by omega) (by omega)]; omega
        rw [decide_eq_true (show (0 : Int) < (k : Int) by omega), cond_true, e1, nite_pos (by omega), nite_pos (by omega), ge_d, decide_eq_false hk0, Bool.false_or]
        have hi : (N.rd l ((k - 1 : Nat) : Int) (0, [], false, false)).1 = idAt l (k - 1) := rfl
        rw [hi]
        by_cases hc : idAt l (k - 1) < (N.rd l (k : Int) (0, [], false, false)).1
        · rw [decide_eq_false (by omega), cond_false, inner _ (fun s2 => by rw [lt_d, len_d]; rfl), decide_eq_true hc, Bool.true_and, hn]
          cases ascP (digAt l k) <;> rfl
        · rw [decide_eq_true (by omega), cond_true, decide_eq_false hc, Bool.false_and]; rfl
  · rw [List.length_range]
    simp only [lt_d, len_d, le_d]
    rw [decide_eq_false (Int.lt_irrefl _), cond_false]
    congr 2
    exact decide_eq_decide.2 (by omega)
  · rw [find_if]
    cases (List.range l.length).all (okAt l) <;> cases decide (l.length ≤ 6) <;> rfl

theorem FnExactAreLibraries_true (l : List Library) (h : bd l) : laws_FnExactAreLibraries l = some true := by
  unfold laws_FnExactAreLibraries
  obtain ⟨s, e, hs⟩ := laws_szLibraryS_is l 1048576 h (by omega) (by omega)
  rw [e, bind_some', lt_d, cond_dec]
  rcases hs with hs | ⟨hk, h0, h1⟩
  · rw [if_pos hs]
  · rw [if_neg (by omega)]
    simp only [laws_toLibraryS_is _ hk, bind_some', spec_AreLibraries_is hk, impl_AreLibraries_is hk, laws_eqLibraryS_is _ _ hk, ne_d, neB_d, not_d, cond_dec]
    simp

end D
end Go.Sh
