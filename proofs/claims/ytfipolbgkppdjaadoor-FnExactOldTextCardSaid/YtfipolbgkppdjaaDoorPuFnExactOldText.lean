/- The native forms of the functions that FnExactOldText reaches, and their pure laws: FnExactOldText is true for every input of bounded parts. No condition beyond the bounds that every input keeps. -/
import Derived.Test.YtfipolbgkppdjaaDoorSh9
set_option linter.unusedVariables false
set_option maxRecDepth 100000
set_option maxHeartbeats 4000000
namespace Go.Sh
open Go
namespace N
def nostr : ByteArray := ByteArray.empty
def lit (l : List UInt8) : ByteArray := ⟨l.toArray⟩
def let_ {α R : Type} (x : α) (f : α → Option R) : Option R := f x
end N
namespace D
noncomputable def spec_FormatInt (x0 : Int) : Option (ByteArray) :=
  N.cond (N.eq x0 0)
    (some (N.lit [48]))
    (
      loopF (fun (s1 : ByteArray × Int) =>
          N.cond (N.ne s1.2 0)
            (
              N.cond (N.lt (N.rem s1.2 10) 0)
                (
                  N.ite (N.catFits (N.ofBytes [N.conv .u8 (N.add .i64 48 (N.sub .i64 0 (N.rem s1.2 10)))]) s1.1)
                    (some (.inl (N.cat (N.ofBytes [N.conv .u8 (N.add .i64 48 (N.sub .i64 0 (N.rem s1.2 10)))]) s1.1, N.quo .i64 s1.2 10)))
                    none)
                (
                  N.ite (N.catFits (N.ofBytes [N.conv .u8 (N.add .i64 48 (N.rem s1.2 10))]) s1.1)
                    (some (.inl (N.cat (N.ofBytes [N.conv .u8 (N.add .i64 48 (N.rem s1.2 10))]) s1.1, N.quo .i64 s1.2 10)))
                    none))
            (
              Option.map Sum.inr
                (
                  N.cond (N.lt x0 0)
                    (
                      N.ite (N.catFits (N.lit [45]) s1.1)
                        (some (N.cat (N.lit [45]) s1.1))
                        none)
                    (some s1.1))))
        (N.nostr, x0))

noncomputable def strconv_Itoa (x0 : Int) : Option (ByteArray) :=
  N.itoa x0

noncomputable def impl_FormatInt (x0 : Int) : Option (ByteArray) :=
  N.bind (strconv_Itoa x0) fun r1 =>
    some r1

noncomputable def laws_szIntS (x0 : List Int) (x1 : Int) : Option (Int) :=
  N.cond (N.lt (N.sub .i64 x1 (N.len x0)) 0)
    (some (-1))
    (some (N.sub .i64 x1 (N.len x0)))

noncomputable def laws_toIntS (x0 : List Int) : Option (List Int) :=
  N.ite (0 ≤ N.len x0)
    (
      N.ite (N.room (N.len x0) 8)
        (
          loopF (fun (s1 : Int × List Int) =>
              N.cond (N.lt s1.1 (N.len x0))
                (
                  N.ite (0 ≤ s1.1)
                    (
                      N.ite (s1.1 < N.len x0)
                        (
                          N.ite (0 ≤ s1.1)
                            (
                              N.ite (s1.1 < N.len s1.2)
                                (some (.inl (N.add .i64 s1.1 1, N.set s1.2 s1.1 (N.rd x0 s1.1 0))))
                                none)
                            none)
                        none)
                    none)
                (some (.inr s1.2)))
            (0, N.rep (N.len x0) (0 : Int)))
        none)
    none

noncomputable def laws_eqIntS (x0 : List Int) (x1 : List Int) : Option (Bool) :=
  N.cond (N.ne (N.len x0) (N.len x1))
    (some false)
    (
      loopF (fun (s1 : Int) =>
          N.cond (N.lt s1 (N.len x0))
            (
              N.ite (0 ≤ s1)
                (
                  N.ite (s1 < N.len x0)
                    (
                      N.ite (0 ≤ s1)
                        (
                          N.ite (s1 < N.len x1)
                            (
                              N.cond (N.ne (N.rd x0 s1 0) (N.rd x1 s1 0))
                                (some (.inr false))
                                (some (.inl (N.add .i64 s1 1))))
                            none)
                        none)
                    none)
                none)
            (some (.inr true)))
        0)

noncomputable def laws_szIntSS (x0 : List (List Int)) (x1 : Int) : Option (Int) :=
  N.cond (N.lt (N.sub .i64 x1 (N.len x0)) 0)
    (some (-1))
    (
      loopF (fun (s1 : Int × Int) =>
          N.cond (N.lt s1.2 (N.len x0))
            (
              N.ite (0 ≤ s1.2)
                (
                  N.ite (s1.2 < N.len x0)
                    (
                      N.bind (laws_szIntS (N.rd x0 s1.2 []) s1.1) fun r1 =>
                        N.cond (N.lt r1 0)
                          (some (.inr (-1)))
                          (some (.inl (r1, N.add .i64 s1.2 1))))
                    none)
                none)
            (some (.inr s1.1)))
        (N.sub .i64 x1 (N.len x0), 0))

noncomputable def laws_toIntSS (x0 : List (List Int)) : Option (List (List Int)) :=
  N.ite (0 ≤ N.len x0)
    (
      N.ite (N.room (N.len x0) 24)
        (
          loopF (fun (s1 : Int × List (List Int)) =>
              N.cond (N.lt s1.1 (N.len x0))
                (
                  N.ite (0 ≤ s1.1)
                    (
                      N.ite (s1.1 < N.len x0)
                        (
                          N.bind (laws_toIntS (N.rd x0 s1.1 [])) fun r1 =>
                            N.ite (0 ≤ s1.1)
                              (
                                N.ite (s1.1 < N.len s1.2)
                                  (some (.inl (N.add .i64 s1.1 1, N.set s1.2 s1.1 r1)))
                                  none)
                              none)
                        none)
                    none)
                (some (.inr s1.2)))
            (0, N.rep (N.len x0) ([] : List Int)))
        none)
    none

noncomputable def spec_OldText (x0 : List (List Int)) : Option (ByteArray) :=
  loopF (fun (s1 : ByteArray × Int) =>
      N.cond (N.lt s1.2 (N.len x0))
        (
          N.cond (N.gt s1.2 0)
            (
              N.ite (N.catFits s1.1 (N.lit [32]))
                (
                  loopF (fun (s2 : ByteArray × Int) =>
                      N.ite (0 ≤ s1.2)
                        (
                          N.ite (s1.2 < N.len x0)
                            (
                              N.cond (N.lt s2.2 (N.len (N.rd x0 s1.2 [])))
                                (
                                  N.cond (N.gt s2.2 0)
                                    (
                                      N.ite (N.catFits s2.1 (N.lit [58]))
                                        (
                                          N.ite (0 ≤ s1.2)
                                            (
                                              N.ite (s1.2 < N.len x0)
                                                (
                                                  N.ite (0 ≤ s2.2)
                                                    (
                                                      N.ite (s2.2 < N.len (N.rd x0 s1.2 []))
                                                        (
                                                          N.bind (spec_FormatInt (N.rd (N.rd x0 s1.2 []) s2.2 0)) fun r1 =>
                                                            N.ite (N.catFits (N.cat s2.1 (N.lit [58])) r1)
                                                              (some (.inl (N.cat (N.cat s2.1 (N.lit [58])) r1, N.add .i64 s2.2 1)))
                                                              none)
                                                        none)
                                                    none)
                                                none)
                                            none)
                                        none)
                                    (
                                      N.ite (0 ≤ s1.2)
                                        (
                                          N.ite (s1.2 < N.len x0)
                                            (
                                              N.ite (0 ≤ s2.2)
                                                (
                                                  N.ite (s2.2 < N.len (N.rd x0 s1.2 []))
                                                    (
                                                      N.bind (spec_FormatInt (N.rd (N.rd x0 s1.2 []) s2.2 0)) fun r2 =>
                                                        N.ite (N.catFits s2.1 r2)
                                                          (some (.inl (N.cat s2.1 r2, N.add .i64 s2.2 1)))
                                                          none)
                                                    none)
                                                none)
                                            none)
                                        none))
                                (some (.inr (.inl (s2.1, N.add .i64 s1.2 1)))))
                            none)
                        none)
                    (N.cat s1.1 (N.lit [32]), 0))
                none)
            (
              loopF (fun (s3 : ByteArray × Int) =>
                  N.ite (0 ≤ s1.2)
                    (
                      N.ite (s1.2 < N.len x0)
                        (
                          N.cond (N.lt s3.2 (N.len (N.rd x0 s1.2 [])))
                            (
                              N.cond (N.gt s3.2 0)
                                (
                                  N.ite (N.catFits s3.1 (N.lit [58]))
                                    (
                                      N.ite (0 ≤ s1.2)
                                        (
                                          N.ite (s1.2 < N.len x0)
                                            (
                                              N.ite (0 ≤ s3.2)
                                                (
                                                  N.ite (s3.2 < N.len (N.rd x0 s1.2 []))
                                                    (
                                                      N.bind (spec_FormatInt (N.rd (N.rd x0 s1.2 []) s3.2 0)) fun r3 =>
                                                        N.ite (N.catFits (N.cat s3.1 (N.lit [58])) r3)
                                                          (some (.inl (N.cat (N.cat s3.1 (N.lit [58])) r3, N.add .i64 s3.2 1)))
                                                          none)
                                                    none)
                                                none)
                                            none)
                                        none)
                                    none)
                                (
                                  N.ite (0 ≤ s1.2)
                                    (
                                      N.ite (s1.2 < N.len x0)
                                        (
                                          N.ite (0 ≤ s3.2)
                                            (
                                              N.ite (s3.2 < N.len (N.rd x0 s1.2 []))
                                                (
                                                  N.bind (spec_FormatInt (N.rd (N.rd x0 s1.2 []) s3.2 0)) fun r4 =>
                                                    N.ite (N.catFits s3.1 r4)
                                                      (some (.inl (N.cat s3.1 r4, N.add .i64 s3.2 1)))
                                                      none)
                                                none)
                                            none)
                                        none)
                                    none))
                            (some (.inr (.inl (s3.1, N.add .i64 s1.2 1)))))
                        none)
                    none)
                (s1.1, 0)))
        (
          Option.map Sum.inr
            (
              N.cond (N.eq (N.len x0) 0)
                (some (N.lit [45]))
                (some s1.1))))
    (N.nostr, 0)

noncomputable def strings_Join (x0 : List ByteArray) (x1 : ByteArray) : Option (ByteArray) :=
  N.joinS x0 x1

noncomputable def impl_joinWith (x0 : List Int) (x1 : ByteArray) : Option (ByteArray) :=
  loopF (fun (s1 : List ByteArray × Int) =>
      N.cond (N.lt s1.2 (N.len x0))
        (
          N.ite (0 ≤ s1.2)
            (
              N.ite (s1.2 < N.len x0)
                (
                  N.bind (impl_FormatInt (N.rd x0 s1.2 0)) fun r1 =>
                    N.ite (N.fits s1.1 [r1] 16)
                      (some (.inl (N.app s1.1 [r1], N.add .i64 s1.2 1)))
                      none)
                none)
            none)
        (
          Option.map Sum.inr
            (
              N.bind (strings_Join s1.1 x1) fun r2 =>
                some r2)))
    ([], 0)

noncomputable def impl_OldText (x0 : List (List Int)) : Option (ByteArray) :=
  N.cond (N.eq (N.len x0) 0)
    (some (N.lit [45]))
    (
      loopF (fun (s1 : List ByteArray × Int) =>
          N.cond (N.lt s1.2 (N.len x0))
            (
              N.ite (0 ≤ s1.2)
                (
                  N.ite (s1.2 < N.len x0)
                    (
                      N.bind (impl_joinWith (N.rd x0 s1.2 []) (N.lit [58])) fun r1 =>
                        N.ite (N.fits s1.1 [r1] 16)
                          (some (.inl (N.app s1.1 [r1], N.add .i64 s1.2 1)))
                          none)
                    none)
                none)
            (
              Option.map Sum.inr
                (
                  N.bind (strings_Join s1.1 (N.lit [32])) fun r2 =>
                    some r2)))
        ([], 0))

noncomputable def laws_eqIntSS (x0 : List (List Int)) (x1 : List (List Int)) : Option (Bool) :=
  N.cond (N.ne (N.len x0) (N.len x1))
    (some false)
    (
      loopF (fun (s1 : Int) =>
          N.cond (N.lt s1 (N.len x0))
            (
              N.ite (0 ≤ s1)
                (
                  N.ite (s1 < N.len x0)
                    (
                      N.ite (0 ≤ s1)
                        (
                          N.ite (s1 < N.len x1)
                            (
                              N.bind (laws_eqIntS (N.rd x0 s1 []) (N.rd x1 s1 [])) fun r1 =>
                                N.cond (N.not r1)
                                  (some (.inr false))
                                  (some (.inl (N.add .i64 s1 1))))
                            none)
                        none)
                    none)
                none)
            (some (.inr true)))
        0)

noncomputable def laws_FnExactOldText (x0 : List (List Int)) : Option (Bool) :=
  N.bind (laws_szIntSS x0 1048576) fun r1 =>
    N.cond (N.lt r1 0)
      (some true)
      (
        N.bind (laws_toIntSS x0) fun r2 =>
          N.bind (spec_OldText r2) fun r3 =>
            N.bind (laws_toIntSS x0) fun r4 =>
              N.bind (impl_OldText r4) fun r5 =>
                N.cond (N.neS r5 r3)
                  (some false)
                  (
                    N.bind (laws_toIntSS x0) fun r6 =>
                      N.bind (laws_eqIntSS r4 r6) fun r7 =>
                        N.cond (N.not r7)
                          (some false)
                          (some true)))

end D
end Go.Sh
set_option linter.unusedVariables false
set_option linter.unusedSimpArgs false
namespace Go.Sh
open Go
/-! ## Loops -/
theorem loopN_det {S R : Type} {step : S → Option (S ⊕ R)} : ∀ {n m : Nat} {s : S} {a b : R}, loopN step n s = some a → loopN step m s = some b → a = b
  | 0, _, _, _, _, h, _ => by simp [loopN] at h
  | _ + 1, 0, _, _, _, _, h => by simp [loopN] at h
  | n + 1, m + 1, s, a, b, h1, h2 => by
    simp only [loopN] at h1 h2
    split at h1
    · cases h1
    · rename_i s' hs; rw [hs] at h2; exact loopN_det h1 h2
    · rename_i r hr; rw [hr] at h2; simp at h1 h2; rw [← h1, ← h2]

theorem loopF_of {S R : Type} {step : S → Option (S ⊕ R)} {s : S} {n : Nat} {r : R} (h : loopN step n s = some r) : loopF step s = some r := by
  have hx : ∃ n r, loopN step n s = some r := ⟨n, r, h⟩
  unfold loopF
  rw [dif_pos hx]
  obtain ⟨m, hm⟩ := Classical.choose_spec hx |> fun h => (⟨_, Classical.choose_spec h⟩ : ∃ v, loopN step (Classical.choose hx) s = some v)
  have := Classical.choose_spec (Classical.choose_spec hx)
  rw [loopN_det this h]

theorem loopF_inr {S R : Type} {step : S → Option (S ⊕ R)} {s : S} {r : R} (h : step s = some (.inr r)) : loopF step s = some r :=
  loopF_of (n := 1) (by simp [loopN, h])

theorem loopF_inl {S R : Type} {step : S → Option (S ⊕ R)} {s s' : S} (h : step s = some (.inl s')) : loopF step s = loopF step s' := by
  by_cases hx : ∃ n r, loopN step n s' = some r
  · obtain ⟨n, r, hn⟩ := hx
    rw [loopF_of hn, loopF_of (n := n + 1) (r := r) (by simp [loopN, h, hn])]
  · have hy : ¬ ∃ n r, loopN step n s = some r := by
      rintro ⟨n, r, hn⟩
      cases n with
      | zero => simp [loopN] at hn
      | succ n => simp only [loopN, h] at hn; exact hx ⟨n, r, hn⟩
    unfold loopF
    rw [dif_neg hx, dif_neg hy]

/-! ## Words -/

section
variable {R α β : Type}
@[simp] theorem bind_some' (x : β) (f : β → Option R) : N.bind (some x) f = f x := rfl

@[simp] theorem cond_true (x y : Option R) : N.cond true x y = x := rfl

@[simp] theorem cond_false (x y : Option R) : N.cond false x y = y := rfl

theorem cond_dec (p : Prop) [Decidable p] (x y : Option R) : N.cond (decide p) x y = if p then x else y := by unfold N.cond; by_cases h : p <;> simp [h]

theorem ite_if (c : Prop) [Decidable c] (x y : Option R) : N.ite c x y = if c then x else y := rfl

theorem nite_pos {c : Prop} [Decidable c] (h : c) (x y : Option R) : N.ite c x y = x := if_pos h

theorem lt_d (a b : Int) : N.lt a b = decide (a < b) := rfl

theorem gt_d (a b : Int) : N.gt a b = decide (b < a) := rfl

theorem eq_d (a b : Int) : N.eq a b = decide (a = b) := rfl

theorem neS_d (a b : ByteArray) : N.neS a b = decide (¬ a = b) := by
  unfold N.neS
  by_cases h : a = b
  · subst h; simp
  · have h2 : ¬ a.toList = b.toList := fun e => by
      rw [ByteArray.toList_eq, ByteArray.toList_eq] at e
      obtain ⟨x⟩ := a
      obtain ⟨y⟩ := b
      exact h (congrArg ByteArray.mk (Array.toList_inj.1 e))
    have h3 : (a.toList == b.toList) = false := by rw [Bool.eq_false_iff]; intro e; exact h2 (eq_of_beq e)
    rw [h3]; simp [h]

theorem ne_d (a b : Int) : N.ne a b = decide (¬ a = b) := by
  unfold N.ne; by_cases h : a = b <;> simp [h]

theorem len_d (xs : List α) : N.len xs = (xs.length : Int) := by simp [N.len]

theorem rd_at (xs : List α) (k : Nat) (hk : k < xs.length) (d : α) : N.rd xs (k : Int) d = xs[k] := by
  simp [N.rd, List.getD, hk]

theorem wrap_id {n : Int} (h1 : -9223372036854775808 ≤ n) (h2 : n < 9223372036854775808) : IntKind.i64.wrap n = n := by
  have e1 : ((2 : Int) ^ IntKind.i64.bits) = 18446744073709551616 := by decide
  have e2 : ((2 : Int) ^ (IntKind.i64.bits - 1)) = 9223372036854775808 := by decide
  have e3 : IntKind.i64.signed = true := rfl
  unfold IntKind.wrap
  rw [e1, e2, e3]
  simp only [Bool.true_and, decide_eq_true_eq]
  split <;> omega

theorem add_id {a b : Int} (h1 : -9223372036854775808 ≤ a + b) (h2 : a + b < 9223372036854775808) : N.add .i64 a b = a + b := wrap_id h1 h2

theorem sub_id {a b : Int} (h1 : -9223372036854775808 ≤ a - b) (h2 : a - b < 9223372036854775808) : N.sub .i64 a b = a - b := wrap_id h1 h2

theorem next_id {k n : Nat} (hk : k < n) (hn : (n : Int) < 9223372036854775808) : N.add .i64 (k : Int) 1 = ((k + 1 : Nat) : Int) := by
  rw [add_id (by omega) (by omega)]; omega

end
end Go.Sh
set_option linter.unusedVariables false
set_option linter.unusedSimpArgs false
namespace Go.Sh
open Go
/-! ## Bounds of data -/
class Data (α : Type) where
  bd : α → Prop
  ok : α → Prop
  le : ∀ x, ok x → bd x

class Flat (α : Type) [Data α] where
  fl : ∀ x : α, Data.bd x → Data.ok x

open Data
instance : Data Int := ⟨fun x => -9223372036854775808 ≤ x ∧ x < 9223372036854775808, fun x => -9223372036854775808 ≤ x ∧ x < 9223372036854775808, fun _ h => h⟩

instance : Data Bool := ⟨fun _ => True, fun _ => True, fun _ h => h⟩

instance : Data ByteArray := ⟨fun s => s.size ≤ 4611686018427387904, fun s => s.size ≤ 4611686018427387904, fun _ h => h⟩

instance {α β : Type} [Data α] [Data β] : Data (α × β) := ⟨fun x => bd x.1 ∧ bd x.2, fun x => ok x.1 ∧ ok x.2, fun x h => ⟨le _ h.1, le _ h.2⟩⟩

instance {α : Type} [Data α] : Data (List α) := ⟨fun xs => xs.length ≤ 4611686018427387904 ∧ ∀ x ∈ xs, bd x, fun xs => xs.length ≤ 1048576 ∧ ∀ x ∈ xs, ok x, fun xs h => ⟨by omega, fun x hx => le x (h.2 x hx)⟩⟩

instance : Flat Int := ⟨fun _ h => h⟩

instance : Flat Bool := ⟨fun _ h => h⟩

instance : Flat ByteArray := ⟨fun _ h => h⟩

instance {α β : Type} [Data α] [Data β] [Flat α] [Flat β] : Flat (α × β) := ⟨fun x h => ⟨Flat.fl _ h.1, Flat.fl _ h.2⟩⟩

section
variable {α : Type} [Data α]
theorem Data.ok.at {xs : List α} (h : ok xs) {k : Nat} (hk : k < xs.length) : ok xs[k] := h.2 _ (List.getElem_mem hk)

theorem Data.bd.at {xs : List α} (h : bd xs) {k : Nat} (hk : k < xs.length) : bd xs[k] := h.2 _ (List.getElem_mem hk)

theorem Data.ok.sub {xs ys : List α} (h : ok xs) (hs : ys.Sublist xs) : ok ys := ⟨Nat.le_trans hs.length_le h.1, fun x hx => h.2 x (hs.subset hx)⟩

end
/-! ## Words, once more -/

section
variable {R α β : Type}
theorem not_d (p : Prop) [Decidable p] : N.not (decide p) = decide (¬ p) := by unfold N.not; by_cases h : p <;> simp [h]

/-! ## Copies -/
theorem set_grow {xs ys : List α} {k : Nat} (hk : k < xs.length) (hl : ys.length = xs.length) (h : ys.take k = xs.take k) : (ys.set k xs[k]).take (k + 1) = xs.take (k + 1) := by
  apply List.ext_getElem
  · simp [hl]
  · intro i h1 h2
    simp only [List.length_take, List.length_set] at h1 h2
    simp only [List.getElem_take, List.getElem_set]
    split
    · rename_i e; subst e; rfl
    · have hi : i < k := by omega
      have := congrArg (fun l => l[i]?) h
      simp [List.getElem?_take, hi] at this
      rw [List.getElem?_eq_getElem (by omega), List.getElem?_eq_getElem (by omega)] at this
      simpa using this

/-- an element of a list that is copied -/
def toStep (xs : List α) (d : α) (f : α → Option α) (s1 : Int × List α) : Option ((Int × List α) ⊕ List α) :=
  N.cond (N.lt s1.1 (N.len xs)) (N.ite (0 ≤ s1.1) (N.ite (s1.1 < N.len xs) (N.bind (f (N.rd xs s1.1 d)) fun r1 => N.ite (0 ≤ s1.1) (N.ite (s1.1 < N.len s1.2) (some (.inl (N.add .i64 s1.1 1, N.set s1.2 s1.1 r1))) none) none) none) none) (some (.inr s1.2))

theorem toLoop {xs : List α} {d : α} {f : α → Option α} (hf : ∀ x ∈ xs, f x = some x) (hs : xs.length ≤ 1048576) : loopF (toStep xs d f) (0, N.rep (N.len xs) d) = some xs := by
  have key : ∀ (m k : Nat) (ys : List α), k + m = xs.length → ys.length = xs.length → ys.take k = xs.take k → loopF (toStep xs d f) ((k : Int), ys) = some xs := by
    intro m
    induction m with
    | zero =>
      intro k ys hk hl ht
      refine loopF_inr ?_
      have : ys = xs := by
        rw [show k = xs.length by omega] at ht
        rw [List.take_length, ← hl, List.take_length] at ht
        exact ht
      subst this
      simp only [toStep, lt_d, len_d, cond_dec]
      rw [if_neg (by omega)]
    | succ m ih =>
      intro k ys hk hl ht
      have hlt : k < xs.length := by omega
      rw [loopF_inl (s' := (((k + 1 : Nat) : Int), ys.set k xs[k])) ?_]
      · exact ih (k + 1) _ (by omega) (by simp [hl]) (set_grow hlt hl ht)
      · simp only [toStep, ite_if]; simp only [lt_d, len_d, cond_dec]
        rw [if_pos (by omega), if_pos (by omega), if_pos (by omega), rd_at xs k hlt, hf _ (List.getElem_mem hlt), bind_some', if_pos (by omega), if_pos (by omega), next_id hlt (by omega)]
        rfl
  have := key xs.length 0 (N.rep (N.len xs) d) (by omega) (by simp [N.rep, N.len]) (by simp)
  simpa using this

theorem toS_is {xs : List α} {bytes : Nat} {d : α} {f : α → Option α} (hb : bytes ≤ 10000) (hf : ∀ x ∈ xs, f x = some x) (hs : xs.length ≤ 1048576) :
    N.ite (0 ≤ N.len xs) (N.ite (N.room (N.len xs) bytes) (loopF (toStep xs d f) (0, N.rep (N.len xs) d)) none) none = some xs := by
  rw [nite_pos (by simp [N.len]), nite_pos, toLoop hf hs]
  unfold N.room N.len
  have : (xs.length : Int) * bytes ≤ 1048576 * 10000 := Int.mul_le_mul (by omega) (by omega) (by omega) (by omega)
  omega

/-! ## Comparing -/
def eqStep (xs ys : List α) (d : α) (f : α → α → Option Bool) (s1 : Int) : Option (Int ⊕ Bool) :=
  N.cond (N.lt s1 (N.len xs)) (N.ite (0 ≤ s1) (N.ite (s1 < N.len xs) (N.ite (0 ≤ s1) (N.ite (s1 < N.len ys) (N.bind (f (N.rd xs s1 d) (N.rd ys s1 d)) fun r1 => N.cond (N.not r1) (some (.inr false)) (some (.inl (N.add .i64 s1 1)))) none) none) none) none) (some (.inr true))

theorem eqLoop [DecidableEq α] {xs ys : List α} {d : α} {f : α → α → Option Bool} {r : α → α → Bool} (hf : ∀ x ∈ xs, ∀ y ∈ ys, f x y = some (r x y)) (hs : xs.length ≤ 4611686018427387904) (hl : xs.length = ys.length) :
    loopF (eqStep xs ys d f) 0 = some ((List.zip xs ys).all fun p => r p.1 p.2) := by
  have key : ∀ (m k : Nat), k + m = xs.length → loopF (eqStep xs ys d f) (k : Int) = some ((List.zip (xs.drop k) (ys.drop k)).all fun p => r p.1 p.2) := by
    intro m
    induction m with
    | zero =>
      intro k hk
      rw [loopF_inr (r := true) ?_]
      · rw [List.drop_eq_nil_of_le (by omega)]; simp
      · simp only [eqStep, lt_d, len_d, cond_dec]; rw [if_neg (by omega)]
    | succ m ih =>
      intro k hk
      have hlt : k < xs.length := by omega
      have hlt' : k < ys.length := by omega
      rw [List.drop_eq_getElem_cons hlt, List.drop_eq_getElem_cons hlt']
      have hst : eqStep xs ys d f (k : Int) = N.cond (N.not (r xs[k] ys[k])) (some (.inr false)) (some (.inl ((k + 1 : Nat) : Int))) := by
        simp only [eqStep, ite_if]; simp only [lt_d, len_d, cond_dec]
        rw [if_pos (by omega), if_pos (by omega), if_pos (by omega), if_pos (by omega), if_pos (by omega), rd_at xs k hlt, rd_at ys k hlt', hf _ (List.getElem_mem hlt) _ (List.getElem_mem hlt'), bind_some', next_id hlt (by omega)]
      cases hr : r xs[k] ys[k] with
      | true => rw [loopF_inl (s' := ((k + 1 : Nat) : Int)) (by rw [hst, hr]; rfl), ih (k + 1) (by omega)]; simp only [List.zip_cons_cons, List.all_cons, hr, Bool.true_and]
      | false => rw [loopF_inr (r := false) (by rw [hst, hr]; rfl)]; simp only [List.zip_cons_cons, List.all_cons, hr, Bool.false_and]
  simpa using key xs.length 0 (by omega)

theorem zip_all_eq [DecidableEq α] : ∀ {xs ys : List α}, xs.length = ys.length → ((List.zip xs ys).all fun p => decide (p.1 = p.2)) = decide (xs = ys)
  | [], [], _ => by simp
  | x :: xs, y :: ys, h => by
    simp only [List.zip_cons_cons, List.all_cons, zip_all_eq (xs := xs) (ys := ys) (by simpa using h)]
    by_cases h1 : x = y <;> by_cases h2 : xs = ys <;> simp [h1, h2]
  | [], _ :: _, h => by simp at h
  | _ :: _, [], h => by simp at h

theorem eqS_is [DecidableEq α] {xs ys : List α} {d : α} {f : α → α → Option Bool} (hf : ∀ x ∈ xs, ∀ y, f x y = some (decide (x = y))) (hs : xs.length ≤ 4611686018427387904) :
    N.cond (N.ne (N.len xs) (N.len ys)) (some false) (loopF (eqStep xs ys d f) 0) = some (decide (xs = ys)) := by
  simp only [ne_d, len_d, cond_dec]
  split
  · rename_i h
    have : ¬ xs = ys := fun e => h (by rw [e])
    simp [this]
  · rename_i h
    have hl : xs.length = ys.length := by omega
    rw [eqLoop (r := fun x y => decide (x = y)) (fun x hx y _ => hf x hx y) hs hl, zip_all_eq hl]

/-! ## Sizes -/
def SzOk [Data α] (f : α → Int → Option Int) : Prop := ∀ x left, bd x → 0 ≤ left → left ≤ 1048576 → ∃ r, f x left = some r ∧ (r < 0 ∨ (ok x ∧ 0 ≤ r ∧ r ≤ left))

theorem szFlat_is [Data α] [Flat α] : SzOk (fun (xs : List α) (left : Int) => N.cond (N.lt (N.sub .i64 left (N.len xs)) 0) (some (-1)) (some (N.sub .i64 left (N.len xs)))) := by
  intro xs left hb h0 h1
  have h2 := hb.1
  simp only [len_d, lt_d, cond_dec, sub_id (a := left) (b := (xs.length : Int)) (by omega) (by omega)]
  split
  · exact ⟨-1, rfl, .inl (by omega)⟩
  · exact ⟨_, rfl, .inr ⟨⟨by omega, fun x hx => Flat.fl x (hb.2 x hx)⟩, by omega, by omega⟩⟩

def szStep (xs : List α) (d : α) (f : α → Int → Option Int) (s1 : Int × Int) : Option ((Int × Int) ⊕ Int) :=
  N.cond (N.lt s1.2 (N.len xs)) (N.ite (0 ≤ s1.2) (N.ite (s1.2 < N.len xs) (N.bind (f (N.rd xs s1.2 d) s1.1) fun r1 => N.cond (N.lt r1 0) (some (.inr (-1))) (some (.inl (r1, N.add .i64 s1.2 1)))) none) none) (some (.inr s1.1))

theorem szNest_is [Data α] {d : α} {f : α → Int → Option Int} (hf : SzOk f) : SzOk (fun (xs : List α) (left : Int) => N.cond (N.lt (N.sub .i64 left (N.len xs)) 0) (some (-1)) (loopF (szStep xs d f) (N.sub .i64 left (N.len xs), 0))) := by
  intro xs left hb h0 h1
  have h2 := hb.1
  simp only [len_d, lt_d, cond_dec, sub_id (a := left) (b := (xs.length : Int)) (by omega) (by omega)]
  split
  · exact ⟨-1, rfl, .inl (by omega)⟩
  · have key : ∀ (m k : Nat) (l : Int), k + m = xs.length → 0 ≤ l → l ≤ 1048576 → ∃ r, loopF (szStep xs d f) (l, (k : Int)) = some r ∧ (r < 0 ∨ ((∀ x ∈ xs.drop k, ok x) ∧ 0 ≤ r ∧ r ≤ l)) := by
      intro m
      induction m with
      | zero =>
        intro k l hk hl0 hl1
        refine ⟨l, loopF_inr ?_, .inr ⟨fun x hx => ?_, hl0, by omega⟩⟩
        · simp only [szStep, lt_d, len_d, cond_dec]; rw [if_neg (by omega)]
        · rw [List.drop_eq_nil_of_le (by omega)] at hx; cases hx
      | succ m ih =>
        intro k l hk hl0 hl1
        have hlt : k < xs.length := by omega
        obtain ⟨r, e, h⟩ := hf xs[k] l (hb.at hlt) hl0 hl1
        have hst : szStep xs d f (l, (k : Int)) = if r < 0 then some (.inr (-1)) else some (.inl (r, ((k + 1 : Nat) : Int))) := by
          simp only [szStep, ite_if]; simp only [lt_d, len_d, cond_dec]
          rw [if_pos (by omega), if_pos (by omega), if_pos (by omega), rd_at xs k hlt, e, bind_some', next_id hlt (by omega)]
        rcases h with h | ⟨h3, h4, h5⟩
        · exact ⟨-1, loopF_inr (by rw [hst, if_pos h]), .inl (by omega)⟩
        · obtain ⟨r2, e2, h6⟩ := ih (k + 1) r (by omega) h4 (by omega)
          refine ⟨r2, by rw [loopF_inl (by rw [hst, if_neg (by omega)]), e2], h6.imp id fun ⟨h7, h8, h9⟩ => ⟨fun x hx => ?_, h8, by omega⟩⟩
          rw [List.drop_eq_getElem_cons hlt] at hx
          rcases List.mem_cons.1 hx with rfl | hx
          · exact h3
          · exact h7 x hx
    obtain ⟨r, e, h⟩ := key xs.length 0 (left - xs.length) (by omega) (by omega) (by omega)
    refine ⟨r, e, h.imp id fun ⟨h7, h8, h9⟩ => ⟨⟨by omega, by simpa using h7⟩, h8, by omega⟩⟩

end
end Go.Sh
set_option linter.unusedVariables false
set_option linter.unusedSimpArgs false
set_option synthInstance.maxSize 100000
set_option maxHeartbeats 1000000
namespace Go.Sh
open Go Data
namespace D
theorem laws_szIntS_is : SzOk laws_szIntS := szFlat_is

theorem laws_toIntS_is (x : List Int) (h : ok x) : laws_toIntS x = some x := by
  unfold laws_toIntS
  exact toS_is (d := 0) (f := fun y => some y) (by decide) (fun y hy => rfl) h.1

theorem laws_eqIntS_is (x y : List Int) (h : ok x) : laws_eqIntS x y = some (decide (x = y)) := by
  have e : laws_eqIntS x y = N.cond (N.ne (N.len x) (N.len y)) (some false) (loopF (eqStep x y 0 fun a b => some (decide (a = b))) 0) := by
    unfold laws_eqIntS
    congr 2 <;> (funext s; simp only [eqStep, bind_some', ne_d, not_d, cond_dec]; try simp only [ite_not])
  rw [e]
  exact eqS_is (fun a ha b => rfl) (by have := h.1; omega)

theorem laws_szIntSS_is : SzOk laws_szIntSS := szNest_is (d := []) laws_szIntS_is

theorem laws_toIntSS_is (x : List (List Int)) (h : ok x) : laws_toIntSS x = some x := by
  unfold laws_toIntSS
  exact toS_is (d := []) (f := laws_toIntS) (by decide) (fun y hy => laws_toIntS_is y (h.2 y hy)) h.1

theorem laws_eqIntSS_is (x y : List (List Int)) (h : ok x) : laws_eqIntSS x y = some (decide (x = y)) := by
  unfold laws_eqIntSS
  exact eqS_is (d := []) (f := laws_eqIntS) (fun a ha b => laws_eqIntS_is a b (h.2 a ha)) (by have := h.1; omega)

end D
end Go.Sh
set_option linter.unusedVariables false
set_option linter.unusedSimpArgs false
set_option synthInstance.maxSize 100000
set_option maxHeartbeats 1000000
namespace Go.Sh
open Go Data
namespace D
end D
end Go.Sh
set_option linter.unusedVariables false
set_option linter.unusedSimpArgs false
set_option synthInstance.maxSize 100000
set_option maxHeartbeats 1000000
namespace Go.Sh
open Go Data
namespace D
/-! ## Counts -/

end D
end Go.Sh
set_option linter.unusedVariables false
set_option linter.unusedSimpArgs false
set_option synthInstance.maxSize 100000
set_option maxHeartbeats 1000000
namespace Go.Sh
open Go Data
namespace D
end D
end Go.Sh
set_option linter.unusedVariables false
set_option linter.unusedSimpArgs false
set_option synthInstance.maxSize 100000
set_option maxHeartbeats 1000000
namespace Go.Sh
open Go Data
namespace D
end D
end Go.Sh
set_option linter.unusedVariables false
set_option linter.unusedSimpArgs false
set_option synthInstance.maxSize 100000
set_option maxHeartbeats 1000000
namespace Go.Sh
open Go Data
namespace D
end D
end Go.Sh
set_option linter.unusedVariables false
set_option linter.unusedSimpArgs false
set_option synthInstance.maxSize 100000
set_option maxHeartbeats 1000000
namespace Go.Sh
open Go Data
namespace D
end D
end Go.Sh
set_option linter.unusedVariables false
set_option linter.unusedSimpArgs false
set_option synthInstance.maxSize 100000
set_option maxHeartbeats 1000000
namespace Go.Sh
open Go Data
namespace D
end D
end Go.Sh
set_option linter.unusedVariables false
set_option linter.unusedSimpArgs false
set_option synthInstance.maxSize 100000
set_option maxHeartbeats 1000000
namespace Go.Sh
open Go Data
namespace D
end D
end Go.Sh
set_option linter.unusedVariables false
set_option linter.unusedSimpArgs false
set_option synthInstance.maxSize 100000
set_option maxHeartbeats 1000000
namespace Go.Sh
open Go Data
namespace D
end D
end Go.Sh
set_option linter.unusedVariables false
set_option linter.unusedSimpArgs false
set_option synthInstance.maxSize 100000
set_option maxHeartbeats 1000000
namespace Go.Sh
open Go Data
namespace D
end D
end Go.Sh
set_option linter.unusedVariables false
set_option linter.unusedSimpArgs false
set_option synthInstance.maxSize 100000
set_option maxHeartbeats 1000000
namespace Go.Sh
open Go Data
/-! ## What is drawn: it comes back, and keeps its bounds -/
def Gets {α : Type} (P : α → Prop) (r : Option α) : Prop := ∃ x, r = some x ∧ P x

section
variable {α β S R : Type} {P : α → Prop} {Q : R → Prop}
theorem Gets.bind {x : Option α} {f : α → Option R} (h : Gets P x) (hf : ∀ a, P a → Gets Q (f a)) : Gets Q (N.bind x f) := by
  obtain ⟨a, rfl, ha⟩ := h; exact hf a ha

theorem Gets.cond {b : Bool} {x y : Option R} (h1 : b = true → Gets Q x) (h2 : b = false → Gets Q y) : Gets Q (N.cond b x y) := by
  unfold N.cond; cases b
  · exact h2 rfl
  · exact h1 rfl

theorem Gets.ite {c : Prop} [Decidable c] {x y : Option R} (hc : c) (h : Gets Q x) : Gets Q (N.ite c x y) := by rw [nite_pos hc]; exact h

end
def few {α : Type} [Data α] (n : Nat) (xs : List α) : Prop := xs.length ≤ n ∧ ∀ x ∈ xs, ok x

theorem few.ok {α : Type} [Data α] {n : Nat} {xs : List α} (h : few n xs) (hn : n ≤ 1048576) : ok xs := ⟨Nat.le_trans h.1 hn, h.2⟩

theorem few.app {α : Type} [Data α] {n m : Nat} {xs : List α} {x : α} (h : few n xs) (hx : Data.ok x) (hm : n + 1 ≤ m) : few m (N.app xs [x]) :=
  ⟨by have := h.1; simp [N.app]; omega, fun y hy => by
    rcases List.mem_append.1 hy with hy | hy
    · exact h.2 y hy
    · simp at hy; subst hy; exact hx⟩

theorem few.set {α : Type} [Data α] {n : Nat} {xs : List α} {x : α} {i : Int} (h : few n xs) (hx : Data.ok x) : few n (N.set xs i x) :=
  ⟨by have := h.1; simp [N.set]; omega, fun y hy => by
    rcases List.mem_or_eq_of_mem_set hy with hy | hy
    · exact h.2 y hy
    · subst hy; exact hx⟩

theorem few.rd {α : Type} [Data α] {n : Nat} {xs : List α} {i : Int} {d : α} (h : few n xs) (hd : Data.ok d) : Data.ok (N.rd xs i d) := by
  unfold N.rd
  rw [List.getD_eq_getElem?_getD]
  cases e : xs[i.toNat]? with
  | none => exact hd
  | some x => exact h.2 x (List.mem_of_getElem? e)

namespace D
end D
end Go.Sh
set_option linter.unusedVariables false
set_option linter.unusedSimpArgs false
set_option synthInstance.maxSize 100000
set_option maxHeartbeats 2000000
namespace Go.Sh
open Go Data
namespace D
end D
end Go.Sh
set_option linter.unusedVariables false
set_option linter.unusedSimpArgs false
set_option synthInstance.maxSize 100000
set_option maxHeartbeats 2000000
namespace Go.Sh
open Go Data
namespace D
end D
end Go.Sh
set_option linter.unusedVariables false
set_option linter.unusedSimpArgs false
set_option synthInstance.maxSize 100000
set_option maxHeartbeats 4000000
namespace Go.Sh
open Go Data
namespace D
end D
end Go.Sh
set_option linter.unusedVariables false
set_option linter.unusedSimpArgs false
set_option synthInstance.maxSize 100000
set_option maxHeartbeats 4000000
namespace Go.Sh
open Go Data
namespace D
end D
end Go.Sh
set_option linter.unusedVariables false
set_option linter.unusedSimpArgs false
set_option synthInstance.maxSize 100000
set_option maxHeartbeats 4000000
namespace Go.Sh
open Go Data
namespace D
end D
end Go.Sh
set_option linter.unusedVariables false
set_option linter.unusedSimpArgs false
set_option synthInstance.maxSize 100000
set_option maxHeartbeats 4000000
namespace Go.Sh
open Go Data
namespace D
end D
end Go.Sh
set_option linter.unusedVariables false
set_option linter.unusedSimpArgs false
set_option synthInstance.maxSize 100000
set_option maxHeartbeats 4000000
namespace Go.Sh
open Go Data
namespace D
end D
end Go.Sh
set_option linter.unusedVariables false
set_option linter.unusedSimpArgs false
set_option synthInstance.maxSize 100000
set_option maxHeartbeats 4000000
namespace Go.Sh
open Go Data
namespace D
end D
end Go.Sh
set_option linter.unusedVariables false
set_option linter.unusedSimpArgs false
set_option synthInstance.maxSize 100000
set_option maxHeartbeats 4000000
namespace Go.Sh
open Go Data
end Go.Sh
set_option linter.unusedVariables false
set_option linter.unusedSimpArgs false
set_option synthInstance.maxSize 100000
set_option maxHeartbeats 4000000
namespace Go.Sh
open Go Data
namespace D
end D
end Go.Sh
set_option linter.unusedVariables false
set_option linter.unusedSimpArgs false
set_option synthInstance.maxSize 100000
set_option maxHeartbeats 4000000
namespace Go.Sh
open Go Data
namespace D
end D
end Go.Sh
set_option linter.unusedVariables false
set_option linter.unusedSimpArgs false
set_option synthInstance.maxSize 100000
set_option maxHeartbeats 4000000
namespace Go.Sh
open Go Data
namespace D
end D
end Go.Sh
set_option linter.unusedVariables false
set_option linter.unusedSimpArgs false
set_option synthInstance.maxSize 100000
set_option maxHeartbeats 4000000
namespace Go.Sh
open Go Data
namespace D
end D
end Go.Sh
set_option linter.unusedVariables false
set_option linter.unusedSimpArgs false
set_option synthInstance.maxSize 100000
set_option maxHeartbeats 4000000
namespace Go.Sh
open Go Data
namespace D
end D
end Go.Sh
set_option linter.unusedVariables false
set_option linter.unusedSimpArgs false
set_option synthInstance.maxSize 100000
set_option maxHeartbeats 4000000
namespace Go.Sh
open Go Data
namespace D
end D
end Go.Sh
set_option linter.unusedVariables false
set_option linter.unusedSimpArgs false
set_option synthInstance.maxSize 100000
set_option maxHeartbeats 4000000
namespace Go.Sh
open Go Data
namespace D
end D
end Go.Sh
set_option linter.unusedVariables false
set_option linter.unusedSimpArgs false
set_option synthInstance.maxSize 100000
set_option maxHeartbeats 4000000
namespace Go.Sh
open Go Data
namespace D
end D
end Go.Sh
set_option linter.unusedVariables false
set_option linter.unusedSimpArgs false
set_option synthInstance.maxSize 100000
set_option maxHeartbeats 4000000
namespace Go.Sh
open Go Data
namespace D
end D
end Go.Sh
set_option linter.unusedVariables false
set_option linter.unusedSimpArgs false
set_option synthInstance.maxSize 100000
set_option maxHeartbeats 4000000
namespace Go.Sh
open Go Data
namespace D
end D
end Go.Sh
set_option linter.unusedVariables false
set_option linter.unusedSimpArgs false
set_option synthInstance.maxSize 100000
set_option maxHeartbeats 4000000
namespace Go.Sh
open Go Data
namespace D
end D
end Go.Sh
set_option linter.unusedVariables false
set_option linter.unusedSimpArgs false
set_option synthInstance.maxSize 100000
set_option maxHeartbeats 4000000
namespace Go.Sh
open Go Data
namespace D
end D
end Go.Sh
set_option linter.unusedVariables false
set_option linter.unusedSimpArgs false
set_option synthInstance.maxSize 100000
set_option maxHeartbeats 4000000
namespace Go.Sh
open Go Data
namespace D
end D
end Go.Sh
set_option linter.unusedVariables false
set_option linter.unusedSimpArgs false
set_option synthInstance.maxSize 100000
set_option maxHeartbeats 4000000
namespace Go.Sh
open Go Data
namespace D
end D
end Go.Sh
set_option linter.unusedVariables false
set_option linter.unusedSimpArgs false
set_option synthInstance.maxSize 100000
set_option maxHeartbeats 4000000
namespace Go.Sh
open Go Data
namespace D
end D
end Go.Sh
set_option linter.unusedVariables false
set_option linter.unusedSimpArgs false
set_option synthInstance.maxSize 100000
set_option maxHeartbeats 4000000
namespace Go.Sh
open Go Data
namespace D
end D
end Go.Sh
set_option linter.unusedVariables false
set_option linter.unusedSimpArgs false
set_option synthInstance.maxSize 100000
set_option maxHeartbeats 4000000
namespace Go.Sh
open Go Data
namespace D
end D
end Go.Sh
set_option linter.unusedVariables false
set_option linter.unusedSimpArgs false
set_option synthInstance.maxSize 100000
set_option maxHeartbeats 4000000
namespace Go.Sh
open Go Data
namespace D
end D
end Go.Sh
set_option linter.unusedVariables false
set_option linter.unusedSimpArgs false
set_option maxRecDepth 100000
set_option maxHeartbeats 4000000
namespace Go.Sh
open Go Data
namespace D
end D
end Go.Sh
set_option linter.unusedVariables false
set_option linter.unusedSimpArgs false
set_option synthInstance.maxSize 100000
set_option maxHeartbeats 4000000
namespace Go.Sh
open Go Data
namespace D
def digits (b : List Int) : Prop := b.length ≤ 4 ∧ ∀ v ∈ b, 0 ≤ v ∧ v ≤ 8

end D
end Go.Sh
set_option linter.unusedVariables false
set_option linter.unusedSimpArgs false
set_option synthInstance.maxSize 100000
set_option maxHeartbeats 4000000
namespace Go.Sh
open Go Data
namespace D
end D
end Go.Sh
set_option linter.unusedVariables false
set_option linter.unusedSimpArgs false
namespace Go.Sh.D
open Go
structure Ordr (le lt : Int → Int → Bool) : Prop where
  total : ∀ a b, (le a b || le b a) = true
  trans : ∀ a b c, le a b = true → le b c = true → le a c = true
  anti : ∀ a b, le a b = true → le b a = true → a = b
  agree : ∀ a b, le a b = true → lt b a = false

/-- x stands before y: the comparison tells their order -/
def Qp (le lt : Int → Int → Bool) (x y : Int) : Prop := le x y = true ∨ lt y x = true

theorem Ordr.rep {le lt : Int → Int → Bool} {P U U' S : List Int} (hq : (P ++ U ++ S).Pairwise (Qp le lt)) (hp : U'.Perm U) (hs : U'.Pairwise fun a b => le a b = true) : (P ++ U' ++ S).Pairwise (Qp le lt) := by
  simp only [List.pairwise_append, List.mem_append] at hq ⊢
  obtain ⟨⟨h1, h2, h3⟩, h4, h5⟩ := hq
  exact ⟨⟨h1, hs.imp fun h => .inl h, fun a ha b hb => h3 a ha b (hp.mem_iff.1 hb)⟩, h4, fun a ha b hb => h5 a (ha.imp id hp.mem_iff.1) b hb⟩

end Go.Sh.D
set_option linter.unusedVariables false
set_option linter.unusedSimpArgs false
namespace Go.Sh.D
open Go
end Go.Sh.D
set_option linter.unusedVariables false
set_option linter.unusedSimpArgs false
namespace Go.Sh.D
open Go
end Go.Sh.D
set_option linter.unusedVariables false
set_option linter.unusedSimpArgs false
namespace Go.Sh.D
open Go
end Go.Sh.D
set_option linter.unusedVariables false
set_option linter.unusedSimpArgs false
namespace Go.Sh.D
open Go
end Go.Sh.D
set_option linter.unusedVariables false
set_option linter.unusedSimpArgs false
namespace Go.Sh.D
open Go
end Go.Sh.D
set_option linter.unusedVariables false
set_option linter.unusedSimpArgs false
namespace Go.Sh.D
open Go
end Go.Sh.D
set_option linter.unusedVariables false
set_option linter.unusedSimpArgs false
namespace Go.Sh.D
open Go
end Go.Sh.D
set_option linter.unusedVariables false
set_option linter.unusedSimpArgs false
namespace Go.Sh.D
open Go
end Go.Sh.D
set_option linter.unusedVariables false
set_option linter.unusedSimpArgs false
namespace Go.Sh.D
open Go Data
end Go.Sh.D
set_option linter.unusedVariables false
set_option linter.unusedSimpArgs false
namespace Go.Sh.D
open Go Data
end Go.Sh.D
set_option linter.unusedVariables false
set_option linter.unusedSimpArgs false
namespace Go.Sh.D
open Go Data
end Go.Sh.D
set_option linter.unusedVariables false
set_option linter.unusedSimpArgs false
namespace Go.Sh.D
open Go Data
end Go.Sh.D
set_option linter.unusedVariables false
set_option linter.unusedSimpArgs false
namespace Go.Sh.D
open Go Data
end Go.Sh.D
set_option linter.unusedVariables false
set_option linter.unusedSimpArgs false
namespace Go.Sh.D
open Go Data
end Go.Sh.D
set_option linter.unusedVariables false
set_option linter.unusedSimpArgs false
namespace Go.Sh.D
open Go Data
end Go.Sh.D
set_option linter.unusedVariables false
set_option linter.unusedSimpArgs false
namespace Go.Sh.D
open Go Data
end Go.Sh.D
set_option linter.unusedVariables false
set_option linter.unusedSimpArgs false
namespace Go.Sh.D
open Go Data
end Go.Sh.D
set_option linter.unusedVariables false
set_option linter.unusedSimpArgs false
namespace Go.Sh.D
open Go Data
end Go.Sh.D
set_option linter.unusedVariables false
set_option linter.unusedSimpArgs false
namespace Go.Sh.D
open Go Data
end Go.Sh.D
set_option linter.unusedVariables false
set_option linter.unusedSimpArgs false
namespace Go.Sh.D
open Go Data
end Go.Sh.D
set_option linter.unusedVariables false
set_option linter.unusedSimpArgs false
namespace Go.Sh
open Go
namespace D
/-! ## Strings as lists -/
abbrev St (l : List UInt8) : ByteArray := ⟨l.toArray⟩

theorem lit_st (l : List UInt8) : N.lit l = St l := rfl

theorem cat_st (a b : List UInt8) : N.cat (St a) (St b) = St (a ++ b) := by
  unfold N.cat
  apply ByteArray.ext
  simp [ByteArray.data_append]

theorem size_st (a : List UInt8) : (St a).size = a.length := by simp [ByteArray.size]

theorem fits_st {a b : List UInt8} (h : a.length + b.length ≤ 4611686018427387904) : N.catFits (St a) (St b) := by
  unfold N.catFits; rw [size_st, size_st]; omega

theorem ofBytes_st (x : Int) : N.ofBytes [x] = St [UInt8.ofNat x.toNat] := rfl

/-! ## Numerals -/
theorem rem_nat (x : Nat) : N.rem (x : Int) 10 = ((x % 10 : Nat) : Int) := by unfold N.rem; exact (Int.ofNat_tmod x 10).symm

theorem conv8 (d : Nat) (h : d < 10) : N.conv .u8 (N.add .i64 48 (d : Int)) = ((48 + d : Nat) : Int) := by
  rw [add_id (by omega) (by omega)]
  have : d = 0 ∨ d = 1 ∨ d = 2 ∨ d = 3 ∨ d = 4 ∨ d = 5 ∨ d = 6 ∨ d = 7 ∨ d = 8 ∨ d = 9 := by omega
  rcases this with h | h | h | h | h | h | h | h | h | h <;> subst h <;> rfl

/-- the digits of a number; none for 0 -/
def digs (u : Nat) : List UInt8 := if u = 0 then [] else Lib.decDigits u

theorem digs_step (u : Nat) (h : u ≠ 0) : digs u = digs (u / 10) ++ [UInt8.ofNat (48 + u % 10)] := by
  unfold digs
  rw [if_neg h]
  rw [Lib.decDigits]
  split
  · rename_i h1
    have : u / 10 = 0 := by omega
    rw [if_pos this]
    have : u % 10 = u := by omega
    rw [this]; rfl
  · rename_i h1
    have : u / 10 ≠ 0 := by omega
    rw [if_neg this]

def fmtBody (x0 : Int) : ByteArray × Int → Option ((ByteArray × Int) ⊕ ByteArray) := fun s1 =>
  N.cond (N.ne s1.2 0)
    (N.cond (N.lt (N.rem s1.2 10) 0)
      (N.ite (N.catFits (N.ofBytes [N.conv .u8 (N.add .i64 48 (N.sub .i64 0 (N.rem s1.2 10)))]) s1.1)
        (some (.inl (N.cat (N.ofBytes [N.conv .u8 (N.add .i64 48 (N.sub .i64 0 (N.rem s1.2 10)))]) s1.1, N.quo .i64 s1.2 10)))
        none)
      (N.ite (N.catFits (N.ofBytes [N.conv .u8 (N.add .i64 48 (N.rem s1.2 10))]) s1.1)
        (some (.inl (N.cat (N.ofBytes [N.conv .u8 (N.add .i64 48 (N.rem s1.2 10))]) s1.1, N.quo .i64 s1.2 10)))
        none))
    (Option.map Sum.inr (N.cond (N.lt x0 0) (N.ite (N.catFits (N.lit [45]) s1.1) (some (N.cat (N.lit [45]) s1.1)) none) (some s1.1)))

end D
end Go.Sh
set_option linter.unusedVariables false
set_option linter.unusedSimpArgs false
namespace Go.Sh
open Go Data
namespace D
theorem digs_len : ∀ (k u : Nat), u < 10 ^ k → (digs u).length ≤ k
  | 0, u, h => by
    have : u = 0 := by simpa using h
    subst this; simp [digs]
  | k + 1, u, h => by
    by_cases hu : u = 0
    · subst hu; simp [digs]
    · rw [digs_step u hu]
      have := digs_len k (u / 10) (by rw [Nat.pow_succ] at h; omega)
      simp; omega

end D
end Go.Sh
set_option linter.unusedVariables false
set_option linter.unusedSimpArgs false
namespace Go.Sh
open Go Data
namespace D
theorem digs_dec {u : Nat} (h : u ≠ 0) : digs u = Lib.decDigits u := by unfold digs; rw [if_neg h]

end D
end Go.Sh
set_option linter.unusedVariables false
set_option linter.unusedSimpArgs false
set_option maxHeartbeats 1000000
namespace Go.Sh
open Go Data
namespace D
end D
end Go.Sh
set_option linter.unusedVariables false
set_option linter.unusedSimpArgs false
set_option maxHeartbeats 2000000
namespace Go.Sh
open Go Data
namespace D
end D
end Go.Sh
set_option linter.unusedVariables false
set_option linter.unusedSimpArgs false
set_option maxHeartbeats 2000000
namespace Go.Sh
open Go Data
namespace D
end D
end Go.Sh
set_option linter.unusedVariables false
set_option linter.unusedSimpArgs false
set_option maxHeartbeats 2000000
namespace Go.Sh
open Go Data
namespace D
end D
end Go.Sh
set_option linter.unusedVariables false
set_option linter.unusedSimpArgs false
set_option maxHeartbeats 2000000
namespace Go.Sh
open Go Data
namespace D
end D
end Go.Sh
set_option linter.unusedVariables false
set_option linter.unusedSimpArgs false
set_option maxHeartbeats 2000000
namespace Go.Sh
open Go Data
namespace D
/-! ## Numerals of every int -/
theorem quo_nat2 (x : Nat) (h : x ≤ 9223372036854775808) : N.quo .i64 (x : Int) 10 = ((x / 10 : Nat) : Int) := by
  unfold N.quo
  have e : Int.tdiv (x : Int) 10 = ((x / 10 : Nat) : Int) := (Int.ofNat_tdiv x 10).symm
  rw [e]
  exact wrap_id (by omega) (by omega)
theorem quo_neg (x : Nat) (h : x ≤ 9223372036854775808) : N.quo .i64 (-(x : Int)) 10 = -((x / 10 : Nat) : Int) := by
  unfold N.quo
  have e : Int.tdiv (-(x : Int)) 10 = -((x / 10 : Nat) : Int) := by rw [Int.neg_tdiv]; rw [Int.ofNat_tdiv]; rfl
  rw [e]
  exact wrap_id (by omega) (by omega)
theorem rem_neg (x : Nat) : N.rem (-(x : Int)) 10 = -((x % 10 : Nat) : Int) := by
  unfold N.rem
  rw [Int.neg_tmod]
  rw [Int.ofNat_tmod]; rfl
theorem fmt_loop2 (x0 : Int) (h0 : 0 ≤ x0) : ∀ (k u : Nat) (acc : List UInt8), u < 10 ^ k → u ≤ 9223372036854775808 → acc.length + k ≤ 1000 → loopF (fmtBody x0) (St acc, (u : Int)) = some (St (digs u ++ acc)) := by
  intro k
  induction k with
  | zero =>
    intro u acc h1 _ h2
    have : u = 0 := by simp at h1; exact h1
    subst this
    refine loopF_inr ?_
    unfold fmtBody
    simp only [ne_d, lt_d, cond_dec]
    rw [if_neg (by simp), if_neg (by omega)]
    rfl
  | succ k ih =>
    intro u acc h1 h3 h2
    by_cases hu : u = 0
    · subst hu
      refine loopF_inr ?_
      unfold fmtBody
      simp only [ne_d, lt_d, cond_dec]
      rw [if_neg (by simp), if_neg (by omega)]
      rfl
    · have hd : u % 10 < 10 := Nat.mod_lt _ (by omega)
      have hs : fmtBody x0 (St acc, (u : Int)) = some (.inl (St (UInt8.ofNat (48 + u % 10) :: acc), ((u / 10 : Nat) : Int))) := by
        unfold fmtBody
        simp only [ne_d, lt_d, cond_dec, rem_nat]
        rw [if_pos (by omega), if_neg (by omega), conv8 _ hd, ofBytes_st, nite_pos (fits_st (by simp; omega)), cat_st, quo_nat2 u h3]
        rfl
      rw [loopF_inl hs, ih (u / 10) _ (by rw [Nat.pow_succ] at h1; omega) (by omega) (by simp; omega), digs_step u hu]
      simp
theorem fmt_loopN (x0 : Int) (h0 : x0 < 0) : ∀ (k u : Nat) (acc : List UInt8), u < 10 ^ k → u ≤ 9223372036854775808 → acc.length + k ≤ 1000 → loopF (fmtBody x0) (St acc, -(u : Int)) = some (St (45 :: (digs u ++ acc))) := by
  have fin : ∀ acc : List UInt8, acc.length ≤ 1000 → fmtBody x0 (St acc, -((0 : Nat) : Int)) = some (.inr (St (45 :: acc))) := fun acc h => by
    unfold fmtBody
    simp only [ne_d, lt_d, cond_dec]
    rw [if_neg (by simp), if_pos h0, lit_st, nite_pos (fits_st (by simp; omega)), cat_st]
    rfl
  intro k
  induction k with
  | zero =>
    intro u acc h1 _ h2
    have : u = 0 := by simp at h1; exact h1
    subst this
    rw [loopF_inr (fin acc (by omega))]; rfl
  | succ k ih =>
    intro u acc h1 h3 h2
    by_cases hu : u = 0
    · subst hu
      rw [loopF_inr (fin acc (by omega))]; rfl
    · have hd : u % 10 < 10 := Nat.mod_lt _ (by omega)
      have hs : fmtBody x0 (St acc, -(u : Int)) = some (.inl (St (UInt8.ofNat (48 + u % 10) :: acc), -((u / 10 : Nat) : Int))) := by
        unfold fmtBody
        simp only [ne_d, lt_d, cond_dec, rem_neg, quo_neg u h3]
        rw [if_pos (by omega)]
        by_cases hz : u % 10 = 0
        · rw [if_neg (by omega), hz]
          have : N.conv .u8 (N.add .i64 48 (-((0 : Nat) : Int))) = ((48 + 0 : Nat) : Int) := rfl
          rw [this, ofBytes_st, nite_pos (fits_st (by simp; omega)), cat_st]
          rfl
        · have e : N.sub .i64 0 (-((u % 10 : Nat) : Int)) = ((u % 10 : Nat) : Int) := by rw [sub_id (by omega) (by omega)]; omega
          rw [if_pos (by omega), e, conv8 _ hd, ofBytes_st, nite_pos (fits_st (by simp; omega)), cat_st]
          rfl
      rw [loopF_inl hs, ih (u / 10) _ (by rw [Nat.pow_succ] at h1; omega) (by omega) (by simp; omega), digs_step u hu]
      simp
theorem fmt_all {n : Int} (h : ok n) : spec_FormatInt n = some (St (Lib.itoa n)) := by
  obtain ⟨h1, h2⟩ := (show -9223372036854775808 ≤ n ∧ n < 9223372036854775808 from h)
  unfold spec_FormatInt
  by_cases hu : n = 0
  · subst hu; simp [N.eq, Lib.itoa, Lib.decDigits]; rfl
  · have e1 : N.eq n 0 = false := by rw [eq_d]; simp [hu]
    rw [e1]
    by_cases hn : n < 0
    · obtain ⟨u, rfl⟩ : ∃ u : Nat, n = -(u : Int) := ⟨n.natAbs, by omega⟩
      have := fmt_loopN (-(u : Int)) hn 19 u [] (by omega) (by omega) (by simp)
      rw [digs_dec (by omega), List.append_nil] at this
      unfold Lib.itoa
      rw [if_pos hn, Int.natAbs_neg, Int.natAbs_natCast]
      exact this
    · obtain ⟨u, rfl⟩ : ∃ u : Nat, n = u := ⟨n.toNat, by omega⟩
      have := fmt_loop2 (u : Int) (by omega) 19 u [] (by omega) (by omega) (by simp)
      rw [digs_dec (by omega), List.append_nil] at this
      unfold Lib.itoa
      rw [if_neg hn]
      exact this
theorem itoa_all {n : Int} (h : ok n) : impl_FormatInt n = some (St (Lib.itoa n)) := by
  obtain ⟨h1, h2⟩ := (show -9223372036854775808 ≤ n ∧ n < 9223372036854775808 from h)
  unfold impl_FormatInt strconv_Itoa N.itoa
  rw [if_pos (by omega)]
  rfl
theorem itoa_len {n : Int} (h : ok n) : (Lib.itoa n).length ≤ 20 := by
  obtain ⟨h1, h2⟩ := (show -9223372036854775808 ≤ n ∧ n < 9223372036854775808 from h)
  have key : ∀ u : Nat, u ≤ 9223372036854775808 → (Lib.decDigits u).length ≤ 19 := fun u hu => by
    by_cases h0 : u = 0
    · subst h0; rw [Lib.decDigits_one (by omega)]; simp
    · rw [← digs_dec h0]; exact digs_len 19 u (by omega)
  unfold Lib.itoa
  split
  · have := key n.natAbs (by omega); simp; omega
  · have := key n.toNat (by omega); omega

/-! ## Loops that write a text, and that collect texts -/
def pieces {X : Type} (piece : Nat → X → List UInt8) : Nat → List X → List UInt8
  | _, [] => []
  | k, x :: r => piece k x ++ pieces piece (k + 1) r
theorem pieces_len {X : Type} {piece : Nat → X → List UInt8} {M : Nat} : ∀ (xs : List X) (k : Nat), (∀ k, ∀ x ∈ xs, (piece k x).length ≤ M) → (pieces piece k xs).length ≤ xs.length * M
  | [], k, h => by simp [pieces]
  | x :: r, k, h => by
    have h1 := h k x (by simp)
    have h2 := pieces_len r (k + 1) fun k y hy => h k y (by simp [hy])
    simp only [pieces, List.length_append, List.length_cons, Nat.add_mul, Nat.one_mul]
    omega
theorem acc_loop {X R : Type} (xs : List X) (piece : Nat → X → List UInt8) (M L0 : Nat) (hp : ∀ k, ∀ x ∈ xs, (piece k x).length ≤ M) {step : ByteArray × Int → Option ((ByteArray × Int) ⊕ R)} {fin : List UInt8 → Option R}
    (hstep : ∀ (k : Nat) (hk : k < xs.length) (acc : List UInt8), acc.length ≤ L0 + k * M → step (St acc, (k : Int)) = some (.inl (St (acc ++ piece k xs[k]), ((k + 1 : Nat) : Int))))
    (hend : ∀ acc : List UInt8, ∃ r, fin acc = some r ∧ step (St acc, (xs.length : Int)) = some (.inr r)) :
    ∀ (m k : Nat) (acc : List UInt8), k + m = xs.length → acc.length ≤ L0 + k * M → loopF step (St acc, (k : Int)) = fin (acc ++ pieces piece k (xs.drop k)) := by
  intro m
  induction m with
  | zero =>
    intro k acc hk ha
    have : k = xs.length := by omega
    subst this
    obtain ⟨r, h1, h2⟩ := hend acc
    rw [List.drop_length, pieces, List.append_nil, h1]
    exact loopF_inr h2
  | succ m ih =>
    intro k acc hk ha
    have hk' : k < xs.length := by omega
    have h1 := hp k xs[k] (List.getElem_mem hk')
    rw [loopF_inl (hstep k hk' acc ha), ih (k + 1) _ (by omega) (by rw [List.length_append, Nat.add_mul, Nat.one_mul]; omega), List.drop_eq_getElem_cons hk', pieces, List.append_assoc]
theorem coll_loop {X R : Type} (xs : List X) (f : X → ByteArray) {step : List ByteArray × Int → Option ((List ByteArray × Int) ⊕ R)} {fin : List ByteArray → Option R}
    (hstep : ∀ (k : Nat) (hk : k < xs.length) (acc : List ByteArray), acc.length = k → step (acc, (k : Int)) = some (.inl (acc ++ [f xs[k]], ((k + 1 : Nat) : Int))))
    (hend : ∃ r, fin (xs.map f) = some r ∧ step (xs.map f, (xs.length : Int)) = some (.inr r)) : loopF step ([], 0) = fin (xs.map f) := by
  have key : ∀ (m k : Nat), k + m = xs.length → loopF step ((xs.take k).map f, (k : Int)) = fin (xs.map f) := by
    intro m
    induction m with
    | zero =>
      intro k hk
      have : k = xs.length := by omega
      subst this
      obtain ⟨r, h1, h2⟩ := hend
      rw [List.take_length, h1]
      exact loopF_inr h2
    | succ m ih =>
      intro k hk
      have hk' : k < xs.length := by omega
      rw [loopF_inl (hstep k hk' _ (by simp; omega)), ← ih (k + 1) (by omega), List.take_succ_eq_append_getElem hk', List.map_append]
      rfl
  exact key xs.length 0 (by omega)

def sepP {X : Type} (c : UInt8) (f : X → List UInt8) : Nat → X → List UInt8 := fun k x => (if k = 0 then [] else [c]) ++ f x
theorem pieces_tail {X : Type} (c : UInt8) (f : X → List UInt8) : ∀ (r : List X) (k : Nat), 0 < k → pieces (sepP c f) k r = Lib.joinTail [c] (r.map f)
  | [], k, h => rfl
  | x :: r, k, h => by
    rw [pieces, pieces_tail c f r (k + 1) (by omega)]
    unfold sepP Lib.joinTail
    rw [if_neg (by omega)]
    simp
theorem pieces_join {X : Type} (c : UInt8) (f : X → List UInt8) (l : List X) : pieces (sepP c f) 0 l = Lib.join (l.map f) [c] := by
  cases l with
  | nil => rfl
  | cons x r =>
    rw [List.map_cons, Lib.join_cons, pieces, pieces_tail c f r 1 (by omega)]
    unfold sepP
    rw [if_pos rfl]; rfl
end D
end Go.Sh
set_option linter.unusedVariables false
set_option linter.unusedSimpArgs false
set_option maxHeartbeats 2000000
namespace Go.Sh
open Go Data
namespace D
theorem fitsB {xs : List ByteArray} {y : ByteArray} (h : xs.length ≤ 1048576) : N.fits xs [y] 16 := by
  show (xs.length + 1) * 16 ≤ 140737488355328
  omega
def numP (p : List Int) : List UInt8 := pieces (sepP 58 Lib.itoa) 0 p
theorem sep_len {p : List Int} (hp : ok p) : ∀ k, ∀ x ∈ p, (sepP 58 Lib.itoa k x).length ≤ 21 := fun k x hx => by
  have := itoa_len (hp.2 x hx)
  unfold sepP
  split <;> simp <;> omega
theorem numP_len {p : List Int} (hp : ok p) : (numP p).length ≤ 22020096 := by
  have h1 := pieces_len p 0 (sep_len hp)
  have h2 := hp.1
  unfold numP
  omega
theorem join_st {ls : List (List UInt8)} {sep : List UInt8} (h1 : ls.length ≤ 1048576) (h2 : (Lib.join ls sep).length ≤ 140737488355328) : strings_Join (ls.map St) (St sep) = some (St (Lib.join ls sep)) := by
  have e : (ls.map St).map (·.data.toList) = ls := by
    rw [List.map_map]
    have : ((fun s : ByteArray => s.data.toList) ∘ St) = id := by funext l; rfl
    rw [this, List.map_id]
  unfold strings_Join N.joinS
  show (if (ls.map St).length ≤ _ ∧ (Lib.join ((ls.map St).map (·.data.toList)) sep).length ≤ _ then some (St (Lib.join ((ls.map St).map (·.data.toList)) sep)) else none) = _
  rw [e, if_pos ⟨by rw [List.length_map]; omega, h2⟩]
theorem joinWith_is {p : List Int} (hp : ok p) : impl_joinWith p (N.lit [58]) = some (St (numP p)) := by
  have hl := numP_len hp
  have hpl := hp.1
  have ej : numP p = Lib.join (p.map Lib.itoa) [58] := pieces_join 58 Lib.itoa p
  unfold impl_joinWith
  refine (coll_loop p (fun x => St (Lib.itoa x)) (fin := fun ps => N.bind (strings_Join ps (N.lit [58])) fun r2 => some r2) (fun k hk acc ha => ?_) ?_).trans ?_
  · have h0 : (0 : Int) ≤ (k : Int) := by omega
    have h1 : (k : Int) < (p.length : Int) := by omega
    simp only [lt_d, len_d, cond_dec, if_pos h1, nite_pos h0, nite_pos h1, rd_at p k hk, itoa_all (hp.2 _ (List.getElem_mem hk)), bind_some', next_id hk (by omega)]
    rw [nite_pos (fitsB (by omega))]; rfl
  · have := join_st (ls := p.map Lib.itoa) (sep := [58]) (by simp; omega) (by rw [← ej]; omega)
    rw [List.map_map] at this
    refine ⟨St (numP p), ?_, ?_⟩
    · show N.bind (strings_Join (p.map (St ∘ Lib.itoa)) (St [58])) _ = _
      rw [this, ej]; rfl
    · simp only [lt_d, len_d, cond_dec]
      rw [if_neg (by omega)]
      show Option.map Sum.inr (N.bind (strings_Join (p.map (St ∘ Lib.itoa)) (St [58])) _) = _
      rw [this, ej]; rfl
  · have := join_st (ls := p.map Lib.itoa) (sep := [58]) (by simp; omega) (by rw [← ej]; omega)
    rw [List.map_map] at this
    show N.bind (strings_Join (p.map (St ∘ Lib.itoa)) (St [58])) _ = _
    rw [this, ej]; rfl

def oldL (x : List (List Int)) : List UInt8 := if x.length = 0 then [45] else pieces (sepP 32 numP) 0 x
theorem sep_len2 {x : List (List Int)} (hx : ok x) : ∀ k, ∀ p ∈ x, (sepP 32 numP k p).length ≤ 22020097 := fun k p hp => by
  have := numP_len (hx.2 p hp)
  unfold sepP
  split <;> simp <;> omega
theorem oldP_len {x : List (List Int)} (hx : ok x) : (pieces (sepP 32 numP) 0 x).length ≤ 25000000000000 := by
  have h1 := pieces_len x 0 (sep_len2 hx)
  have h2 := hx.1
  have h3 : x.length * 22020097 ≤ 1048576 * 22020097 := Nat.mul_le_mul_right _ h2
  omega
theorem impl_OldText_is {x : List (List Int)} (hx : ok x) : impl_OldText x = some (St (oldL x)) := by
  have hl := oldP_len hx
  have hxl := hx.1
  have ej : pieces (sepP 32 numP) 0 x = Lib.join (x.map numP) [32] := pieces_join 32 numP x
  unfold impl_OldText oldL
  rw [eq_d, len_d, cond_dec]
  by_cases h : x.length = 0
  · rw [if_pos (by omega), if_pos h]; rfl
  rw [if_neg (by omega), if_neg h]
  have hj := join_st (ls := x.map numP) (sep := [32]) (by simp; omega) (by rw [← ej]; omega)
  rw [List.map_map] at hj
  refine (coll_loop x (fun p => St (numP p)) (fin := fun ps => N.bind (strings_Join ps (N.lit [32])) fun r2 => some r2) (fun k hk acc ha => ?_) ?_).trans ?_
  · have h0 : (0 : Int) ≤ (k : Int) := by omega
    have h1 : (k : Int) < (x.length : Int) := by omega
    simp only [lt_d, len_d, cond_dec, if_pos h1, nite_pos h0, nite_pos h1, rd_at x k hk, joinWith_is (hx.2 _ (List.getElem_mem hk)), bind_some', next_id hk (by omega)]
    rw [nite_pos (fitsB (by omega))]; rfl
  · refine ⟨St (pieces (sepP 32 numP) 0 x), ?_, ?_⟩
    · show N.bind (strings_Join (x.map (St ∘ numP)) (St [32])) _ = _
      rw [hj, ej]; rfl
    · simp only [lt_d, len_d, cond_dec]
      rw [if_neg (by omega)]
      show Option.map Sum.inr (N.bind (strings_Join (x.map (St ∘ numP)) (St [32])) _) = _
      rw [hj, ej]; rfl
  · show N.bind (strings_Join (x.map (St ∘ numP)) (St [32])) _ = _
    rw [hj, ej]; rfl

/-- the reference's inner loop -/
theorem inner_is {R : Type} {p : List Int} (hp : ok p) {step : ByteArray × Int → Option ((ByteArray × Int) ⊕ R)} {fin : List UInt8 → R} {acc : List UInt8} (ha : acc.length ≤ 26000000000000)
    (h1 : ∀ (k : Nat) (hk : k < p.length) (b : List UInt8), b.length ≤ 27000000000000 → 0 < k → step (St b, (k : Int)) = some (.inl (St (b ++ [58] ++ Lib.itoa p[k]), ((k + 1 : Nat) : Int))))
    (h0 : ∀ (hk : 0 < p.length) (b : List UInt8), b.length ≤ 27000000000000 → step (St b, ((0 : Nat) : Int)) = some (.inl (St (b ++ Lib.itoa p[0]), ((0 + 1 : Nat) : Int))))
    (he : ∀ b : List UInt8, step (St b, (p.length : Int)) = some (.inr (fin b))) : loopF step (St acc, 0) = some (fin (acc ++ numP p)) := by
  have hpl := hp.1
  refine acc_loop p (sepP 58 Lib.itoa) 21 acc.length (sep_len hp) (fin := fun b => some (fin b)) (fun k hk b hb => ?_) (fun b => ⟨_, rfl, he b⟩) p.length 0 acc (by omega) (by omega)
  have hk2 : k * 21 ≤ 1048576 * 21 := Nat.mul_le_mul_right _ (by omega)
  by_cases h : k = 0
  · subst h
    rw [h0 hk b (by omega)]
    unfold sepP
    rw [if_pos rfl]; rfl
  · rw [h1 k hk b (by omega) (by omega)]
    unfold sepP
    rw [if_neg h, List.append_assoc]

theorem spec_OldText_is {x : List (List Int)} (hx : ok x) : spec_OldText x = some (St (oldL x)) := by
  have hl := oldP_len hx
  have hxl := hx.1
  unfold spec_OldText
  refine (acc_loop x (sepP 32 numP) 22020097 0 (sep_len2 hx) (fin := fun b => N.cond (N.eq (N.len x) 0) (some (N.lit [45])) (some (St b))) (fun i hi acc ha => ?_) (fun b => ?_) x.length 0 [] (by omega) (by simp)).trans ?_
  · have hi2 : i * 22020097 ≤ 1048576 * 22020097 := Nat.mul_le_mul_right _ (by omega)
    have hp : ok x[i] := hx.2 _ (List.getElem_mem hi)
    have hpl := hp.1
    have c0 : (0 : Int) ≤ (i : Int) := by omega
    have c1 : (i : Int) < (x.length : Int) := by omega
    simp only [lt_d, gt_d, len_d, cond_dec, if_pos c1, nite_pos c0, nite_pos c1, rd_at x i hi, next_id hi (show (x.length : Int) < 9223372036854775808 by omega)]
    have step1 : ∀ (k : Nat) (hk : k < x[i].length) (b : List UInt8), b.length ≤ 27000000000000 → (if ((0 : Nat) : Int) < ((k : Nat) : Int) then
          N.ite (N.catFits (St b) (N.lit [58])) (N.ite ((0 : Int) ≤ (k : Int)) (N.ite ((k : Int) < (x[i].length : Int)) (N.bind (spec_FormatInt (N.rd x[i] (k : Int) 0)) fun r1 => N.ite (N.catFits (N.cat (St b) (N.lit [58])) r1) (some (Sum.inl (α := ByteArray × Int) (β := (ByteArray × Int) ⊕ ByteArray) (N.cat (N.cat (St b) (N.lit [58])) r1, N.add .i64 (k : Int) 1))) none) none) none) none
        else N.ite ((0 : Int) ≤ (k : Int)) (N.ite ((k : Int) < (x[i].length : Int)) (N.bind (spec_FormatInt (N.rd x[i] (k : Int) 0)) fun r2 => N.ite (N.catFits (St b) r2) (some (Sum.inl (N.cat (St b) r2, N.add .i64 (k : Int) 1))) none) none) none) =
        some (.inl (St (if k = 0 then b ++ Lib.itoa x[i][k] else b ++ [58] ++ Lib.itoa x[i][k]), ((k + 1 : Nat) : Int))) := fun k hk b hb => by
      have hn : ok x[i][k] := hp.2 _ (List.getElem_mem hk)
      have hnl := itoa_len hn
      have d0 : (0 : Int) ≤ (k : Int) := by omega
      have d1 : (k : Int) < (x[i].length : Int) := by omega
      by_cases h : k = 0
      · rw [if_neg (by omega), if_pos h]
        rw [nite_pos d0, nite_pos d1, rd_at x[i] k hk, fmt_all hn, bind_some', nite_pos (fits_st (by omega)), cat_st, next_id hk (by omega)]
      · rw [if_pos (by omega), if_neg h]
        rw [lit_st, nite_pos (fits_st (by simp; omega)), nite_pos d0, nite_pos d1, rd_at x[i] k hk, fmt_all hn, bind_some', cat_st, nite_pos (fits_st (by simp; omega)), cat_st, next_id hk (by omega)]
    by_cases h : i = 0
    · rw [if_neg (by omega)]
      refine (inner_is hp (fin := fun b => Sum.inl (St b, ((i + 1 : Nat) : Int))) (acc := acc) (by omega) (fun k hk b hb hk0 => ?_) (fun hk b hb => ?_) (fun b => ?_)).trans ?_
      · have := step1 k hk b hb
        rw [if_neg (show ¬ k = 0 by omega)] at this
        rw [if_pos (show (k : Int) < (x[i].length : Int) by omega)]
        exact this
      · have := step1 0 hk b hb
        rw [if_pos rfl] at this
        rw [if_pos (show ((0 : Nat) : Int) < (x[i].length : Int) by omega)]
        exact this
      · rw [if_neg (by omega)]
      · unfold sepP; rw [if_pos h]; rfl
    · rw [if_pos (by omega), lit_st, nite_pos (fits_st (by simp; omega)), cat_st]
      refine (inner_is hp (fin := fun b => Sum.inl (St b, ((i + 1 : Nat) : Int))) (acc := acc ++ [32]) (by simp; omega) (fun k hk b hb hk0 => ?_) (fun hk b hb => ?_) (fun b => ?_)).trans ?_
      · have := step1 k hk b hb
        rw [if_neg (show ¬ k = 0 by omega)] at this
        rw [if_pos (show (k : Int) < (x[i].length : Int) by omega)]
        exact this
      · have := step1 0 hk b hb
        rw [if_pos rfl] at this
        rw [if_pos (show ((0 : Nat) : Int) < (x[i].length : Int) by omega)]
        exact this
      · rw [if_neg (by omega)]
      · unfold sepP; rw [if_neg h, List.append_assoc]
  · simp only [lt_d, len_d, eq_d, cond_dec]
    rw [if_neg (show ¬ (x.length : Int) < (x.length : Int) by omega)]
    by_cases h : (x.length : Int) = 0
    · rw [if_pos h]; exact ⟨_, rfl, rfl⟩
    · rw [if_neg h]; exact ⟨_, rfl, rfl⟩
  · simp only [len_d, eq_d, cond_dec]
    unfold oldL
    rw [List.drop_zero, List.nil_append]
    by_cases h : x.length = 0
    · rw [if_pos (by omega), if_pos h]; rfl
    · rw [if_neg (by omega), if_neg h]

theorem FnExactOldText_true (x : List (List Int)) (hx : bd x) : laws_FnExactOldText x = some true := by
  unfold laws_FnExactOldText
  obtain ⟨s, e, hs⟩ := laws_szIntSS_is x 1048576 hx (by omega) (by omega)
  rw [e, bind_some', lt_d, cond_dec]
  rcases hs with hs | ⟨hk, h0, h1⟩
  · rw [if_pos hs]
  rw [if_neg (by omega)]
  simp only [laws_toIntSS_is _ hk, bind_some', spec_OldText_is hk, impl_OldText_is hk, neS_d, cond_dec, laws_eqIntSS_is _ _ hk, not_d]
  simp
end D
end Go.Sh
