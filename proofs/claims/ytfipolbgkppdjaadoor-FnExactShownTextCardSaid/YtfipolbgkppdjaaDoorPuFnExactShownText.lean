/- The native forms of the functions that FnExactShownText reaches, and their pure laws: FnExactShownText is true for every input of bounded parts. No condition beyond the bounds that every input keeps. -/
import Derived.Test.YtfipolbgkppdjaaDoorSh9
set_option linter.unusedVariables false
set_option maxRecDepth 100000
set_option maxHeartbeats 4000000
namespace Go.Sh
open Go
namespace N
def nostr : ByteArray := ByteArray.empty
def lit (l : List UInt8) : ByteArray := ⟨l.toArray⟩
def let_ {α R : Type} (x : α) (f : α → Option R) : Option R := f x
end N
namespace D
abbrev Address : Type := Int × Int × Int
abbrev Shown : Type := Int × Address
noncomputable def laws_toAddress (x0 : Address) : Option (Address) :=
  some x0

noncomputable def laws_toShown (x0 : Shown) : Option (Shown) :=
  N.bind (laws_toAddress x0.2) fun r1 =>
    some (x0.1, r1)

noncomputable def spec_l1In (x0 : Int) (x1 : Int) (x2 : Int) : Option (Bool) :=
  N.cond (N.ge x0 x1)
    (some (N.le x0 x2))
    (some false)

noncomputable def spec_IsAddress (x0 : Address) : Option (Bool) :=
  N.bind (spec_l1In x0.1 1 9) fun r1 =>
    N.cond r1
      (
        N.bind (spec_l1In x0.2.1 0 99) fun r2 =>
          N.cond r2
            (
              N.bind (spec_l1In x0.2.2 0 99) fun r3 =>
                some r3)
            (some false))
      (some false)

noncomputable def spec_FormatInt (x0 : Int) : Option (ByteArray) :=
  N.cond (N.eq x0 0)
    (some (N.lit [48]))
    (
      loopF (fun (s1 : ByteArray × Int) =>
          N.cond (N.ne s1.2 0)
            (
              N.cond (N.lt (N.rem s1.2 10) 0)
                (
                  N.ite (N.catFits (N.ofBytes [N.conv .u8 (N.add .i64 48 (N.sub .i64 0 (N.rem s1.2 10)))]) s1.1)
                    (some (.inl (N.cat (N.ofBytes [N.conv .u8 (N.add .i64 48 (N.sub .i64 0 (N.rem s1.2 10)))]) s1.1, N.quo .i64 s1.2 10)))
                    none)
                (
                  N.ite (N.catFits (N.ofBytes [N.conv .u8 (N.add .i64 48 (N.rem s1.2 10))]) s1.1)
                    (some (.inl (N.cat (N.ofBytes [N.conv .u8 (N.add .i64 48 (N.rem s1.2 10))]) s1.1, N.quo .i64 s1.2 10)))
                    none))
            (
              Option.map Sum.inr
                (
                  N.cond (N.lt x0 0)
                    (
                      N.ite (N.catFits (N.lit [45]) s1.1)
                        (some (N.cat (N.lit [45]) s1.1))
                        none)
                    (some s1.1))))
        (N.nostr, x0))

noncomputable def spec_AddressText (x0 : Address) : Option (ByteArray) :=
  N.bind (spec_IsAddress x0) fun r1 =>
    N.cond (N.not r1)
      (some N.nostr)
      (
        N.bind (spec_FormatInt x0.1) fun r2 =>
          N.ite (N.catFits r2 (N.lit [47]))
            (
              N.bind (spec_FormatInt x0.2.1) fun r3 =>
                N.ite (N.catFits (N.cat r2 (N.lit [47])) r3)
                  (
                    N.cond (N.ne x0.2.2 0)
                      (
                        N.ite (N.catFits (N.cat (N.cat r2 (N.lit [47])) r3) (N.lit [63]))
                          (
                            N.bind (spec_FormatInt x0.2.2) fun r4 =>
                              N.ite (N.catFits (N.cat (N.cat (N.cat r2 (N.lit [47])) r3) (N.lit [63])) r4)
                                (some (N.cat (N.cat (N.cat (N.cat r2 (N.lit [47])) r3) (N.lit [63])) r4))
                                none)
                          none)
                      (some (N.cat (N.cat r2 (N.lit [47])) r3)))
                  none)
            none)

noncomputable def spec_ShownText (x0 : Shown) : Option (ByteArray) :=
  N.bind (spec_l1In x0.1 0 2000) fun r1 =>
    N.cond (N.not r1)
      (some N.nostr)
      (
        N.bind (spec_IsAddress x0.2) fun r2 =>
          N.cond (N.not r2)
            (some N.nostr)
            (
              N.bind (spec_FormatInt x0.1) fun r3 =>
                N.ite (N.catFits (N.lit [97, 114, 99, 104, 105, 118, 101, 47]) r3)
                  (
                    N.ite (N.catFits (N.cat (N.lit [97, 114, 99, 104, 105, 118, 101, 47]) r3) (N.lit [47]))
                      (
                        N.bind (spec_AddressText x0.2) fun r4 =>
                          N.ite (N.catFits (N.cat (N.cat (N.lit [97, 114, 99, 104, 105, 118, 101, 47]) r3) (N.lit [47])) r4)
                            (some (N.cat (N.cat (N.cat (N.lit [97, 114, 99, 104, 105, 118, 101, 47]) r3) (N.lit [47])) r4))
                            none)
                      none)
                  none))

noncomputable def impl_InRange (x0 : Int) (x1 : Int) (x2 : Int) : Option (Bool) :=
  N.cond (N.le x1 x0)
    (some (N.le x0 x2))
    (some false)

noncomputable def impl_IsAddress (x0 : Address) : Option (Bool) :=
  N.bind (impl_InRange x0.1 1 9) fun r1 =>
    N.cond r1
      (
        N.bind (impl_InRange x0.2.1 0 99) fun r2 =>
          N.cond r2
            (
              N.bind (impl_InRange x0.2.2 0 99) fun r3 =>
                some r3)
            (some false))
      (some false)

noncomputable def strconv_Itoa (x0 : Int) : Option (ByteArray) :=
  N.itoa x0

noncomputable def impl_FormatInt (x0 : Int) : Option (ByteArray) :=
  N.bind (strconv_Itoa x0) fun r1 =>
    some r1

noncomputable def impl_AddressText (x0 : Address) : Option (ByteArray) :=
  N.bind (impl_IsAddress x0) fun r1 =>
    N.cond (N.not r1)
      (some N.nostr)
      (
        N.bind (impl_FormatInt x0.1) fun r2 =>
          N.ite (N.catFits r2 (N.lit [47]))
            (
              N.bind (impl_FormatInt x0.2.1) fun r3 =>
                N.ite (N.catFits (N.cat r2 (N.lit [47])) r3)
                  (
                    N.cond (N.ne x0.2.2 0)
                      (
                        N.bind (impl_FormatInt x0.2.2) fun r4 =>
                          N.ite (N.catFits (N.lit [63]) r4)
                            (
                              N.ite (N.catFits (N.cat (N.cat r2 (N.lit [47])) r3) (N.cat (N.lit [63]) r4))
                                (some (N.cat (N.cat (N.cat r2 (N.lit [47])) r3) (N.cat (N.lit [63]) r4)))
                                none)
                            none)
                      (some (N.cat (N.cat r2 (N.lit [47])) r3)))
                  none)
            none)

noncomputable def impl_ShownText (x0 : Shown) : Option (ByteArray) :=
  N.bind (impl_InRange x0.1 0 2000) fun r1 =>
    N.cond (N.not r1)
      (some N.nostr)
      (
        N.bind (impl_IsAddress x0.2) fun r2 =>
          N.cond (N.not r2)
            (some N.nostr)
            (
              N.bind (impl_FormatInt x0.1) fun r3 =>
                N.ite (N.catFits (N.lit [97, 114, 99, 104, 105, 118, 101, 47]) r3)
                  (
                    N.ite (N.catFits (N.cat (N.lit [97, 114, 99, 104, 105, 118, 101, 47]) r3) (N.lit [47]))
                      (
                        N.bind (impl_AddressText x0.2) fun r4 =>
                          N.ite (N.catFits (N.cat (N.cat (N.lit [97, 114, 99, 104, 105, 118, 101, 47]) r3) (N.lit [47])) r4)
                            (some (N.cat (N.cat (N.cat (N.lit [97, 114, 99, 104, 105, 118, 101, 47]) r3) (N.lit [47])) r4))
                            none)
                      none)
                  none))

noncomputable def laws_FnExactShownText (x0 : Shown) : Option (Bool) :=
  N.bind (laws_toShown x0) fun r1 =>
    N.bind (spec_ShownText r1) fun r2 =>
      N.bind (laws_toShown x0) fun r3 =>
        N.bind (impl_ShownText r3) fun r4 =>
          N.cond (N.neS r4 r2)
            (some false)
            (some true)

end D
end Go.Sh
set_option linter.unusedVariables false
set_option linter.unusedSimpArgs false
namespace Go.Sh
open Go
/-! ## Loops -/
theorem loopN_det {S R : Type} {step : S → Option (S ⊕ R)} : ∀ {n m : Nat} {s : S} {a b : R}, loopN step n s = some a → loopN step m s = some b → a = b
  | 0, _, _, _, _, h, _ => by simp [loopN] at h
  | _ + 1, 0, _, _, _, _, h => by simp [loopN] at h
  | n + 1, m + 1, s, a, b, h1, h2 => by
    simp only [loopN] at h1 h2
    split at h1
    · cases h1
    · rename_i s' hs; rw [hs] at h2; exact loopN_det h1 h2
    · rename_i r hr; rw [hr] at h2; simp at h1 h2; rw [← h1, ← h2]

theorem loopF_of {S R : Type} {step : S → Option (S ⊕ R)} {s : S} {n : Nat} {r : R} (h : loopN step n s = some r) : loopF step s = some r := by
  have hx : ∃ n r, loopN step n s = some r := ⟨n, r, h⟩
  unfold loopF
  rw [dif_pos hx]
  obtain ⟨m, hm⟩ := Classical.choose_spec hx |> fun h => (⟨_, Classical.choose_spec h⟩ : ∃ v, loopN step (Classical.choose hx) s = some v)
  have := Classical.choose_spec (Classical.choose_spec hx)
  rw [loopN_det this h]

theorem loopF_inr {S R : Type} {step : S → Option (S ⊕ R)} {s : S} {r : R} (h : step s = some (.inr r)) : loopF step s = some r :=
  loopF_of (n := 1) (by simp [loopN, h])

theorem loopF_inl {S R : Type} {step : S → Option (S ⊕ R)} {s s' : S} (h : step s = some (.inl s')) : loopF step s = loopF step s' := by
  by_cases hx : ∃ n r, loopN step n s' = some r
  · obtain ⟨n, r, hn⟩ := hx
    rw [loopF_of hn, loopF_of (n := n + 1) (r := r) (by simp [loopN, h, hn])]
  · have hy : ¬ ∃ n r, loopN step n s = some r := by
      rintro ⟨n, r, hn⟩
      cases n with
      | zero => simp [loopN] at hn
      | succ n => simp only [loopN, h] at hn; exact hx ⟨n, r, hn⟩
    unfold loopF
    rw [dif_neg hx, dif_neg hy]

/-! ## Words -/

section
variable {R α β : Type}
@[simp] theorem bind_some' (x : β) (f : β → Option R) : N.bind (some x) f = f x := rfl

@[simp] theorem cond_true (x y : Option R) : N.cond true x y = x := rfl

@[simp] theorem cond_false (x y : Option R) : N.cond false x y = y := rfl

theorem cond_dec (p : Prop) [Decidable p] (x y : Option R) : N.cond (decide p) x y = if p then x else y := by unfold N.cond; by_cases h : p <;> simp [h]

theorem nite_pos {c : Prop} [Decidable c] (h : c) (x y : Option R) : N.ite c x y = x := if_pos h

theorem lt_d (a b : Int) : N.lt a b = decide (a < b) := rfl

theorem le_d (a b : Int) : N.le a b = decide (a ≤ b) := rfl

theorem ge_d (a b : Int) : N.ge a b = decide (b ≤ a) := rfl

theorem eq_d (a b : Int) : N.eq a b = decide (a = b) := rfl

theorem neS_d (a b : ByteArray) : N.neS a b = decide (¬ a = b) := by
  unfold N.neS
  by_cases h : a = b
  · subst h; simp
  · have h2 : ¬ a.toList = b.toList := fun e => by
      rw [ByteArray.toList_eq, ByteArray.toList_eq] at e
      obtain ⟨x⟩ := a
      obtain ⟨y⟩ := b
      exact h (congrArg ByteArray.mk (Array.toList_inj.1 e))
    have h3 : (a.toList == b.toList) = false := by rw [Bool.eq_false_iff]; intro e; exact h2 (eq_of_beq e)
    rw [h3]; simp [h]

theorem ne_d (a b : Int) : N.ne a b = decide (¬ a = b) := by
  unfold N.ne; by_cases h : a = b <;> simp [h]

theorem wrap_id {n : Int} (h1 : -9223372036854775808 ≤ n) (h2 : n < 9223372036854775808) : IntKind.i64.wrap n = n := by
  have e1 : ((2 : Int) ^ IntKind.i64.bits) = 18446744073709551616 := by decide
  have e2 : ((2 : Int) ^ (IntKind.i64.bits - 1)) = 9223372036854775808 := by decide
  have e3 : IntKind.i64.signed = true := rfl
  unfold IntKind.wrap
  rw [e1, e2, e3]
  simp only [Bool.true_and, decide_eq_true_eq]
  split <;> omega

theorem add_id {a b : Int} (h1 : -9223372036854775808 ≤ a + b) (h2 : a + b < 9223372036854775808) : N.add .i64 a b = a + b := wrap_id h1 h2

end
end Go.Sh
set_option linter.unusedVariables false
set_option linter.unusedSimpArgs false
namespace Go.Sh
open Go
/-! ## Bounds of data -/
class Data (α : Type) where
  bd : α → Prop
  ok : α → Prop
  le : ∀ x, ok x → bd x

class Flat (α : Type) [Data α] where
  fl : ∀ x : α, Data.bd x → Data.ok x

open Data
instance : Data Int := ⟨fun x => -9223372036854775808 ≤ x ∧ x < 9223372036854775808, fun x => -9223372036854775808 ≤ x ∧ x < 9223372036854775808, fun _ h => h⟩

instance : Data Bool := ⟨fun _ => True, fun _ => True, fun _ h => h⟩

instance : Data ByteArray := ⟨fun s => s.size ≤ 4611686018427387904, fun s => s.size ≤ 4611686018427387904, fun _ h => h⟩

instance {α β : Type} [Data α] [Data β] : Data (α × β) := ⟨fun x => bd x.1 ∧ bd x.2, fun x => ok x.1 ∧ ok x.2, fun x h => ⟨le _ h.1, le _ h.2⟩⟩

instance {α : Type} [Data α] : Data (List α) := ⟨fun xs => xs.length ≤ 4611686018427387904 ∧ ∀ x ∈ xs, bd x, fun xs => xs.length ≤ 1048576 ∧ ∀ x ∈ xs, ok x, fun xs h => ⟨by omega, fun x hx => le x (h.2 x hx)⟩⟩

instance : Flat Int := ⟨fun _ h => h⟩

instance : Flat Bool := ⟨fun _ h => h⟩

instance : Flat ByteArray := ⟨fun _ h => h⟩

instance {α β : Type} [Data α] [Data β] [Flat α] [Flat β] : Flat (α × β) := ⟨fun x h => ⟨Flat.fl _ h.1, Flat.fl _ h.2⟩⟩

section
variable {α : Type} [Data α]
theorem Data.ok.sub {xs ys : List α} (h : ok xs) (hs : ys.Sublist xs) : ok ys := ⟨Nat.le_trans hs.length_le h.1, fun x hx => h.2 x (hs.subset hx)⟩

end
/-! ## Words, once more -/

section
variable {R α β : Type}
end
end Go.Sh
set_option linter.unusedVariables false
set_option linter.unusedSimpArgs false
set_option synthInstance.maxSize 100000
set_option maxHeartbeats 1000000
namespace Go.Sh
open Go Data
namespace D
theorem laws_toAddress_is (x : Address) (h : ok x) : laws_toAddress x = some x := rfl

theorem laws_toShown_is (x : Shown) (h : ok x) : laws_toShown x = some x := by
  unfold laws_toShown
  rw [laws_toAddress_is _ h.2, bind_some']

end D
end Go.Sh
set_option linter.unusedVariables false
set_option linter.unusedSimpArgs false
set_option synthInstance.maxSize 100000
set_option maxHeartbeats 1000000
namespace Go.Sh
open Go Data
namespace D
theorem spec_l1In_is (a b c : Int) : spec_l1In a b c = some (decide (b ≤ a ∧ a ≤ c)) := by
  unfold spec_l1In
  simp only [ge_d, le_d, cond_dec]
  by_cases h1 : b ≤ a <;> by_cases h2 : a ≤ c <;> simp [h1, h2]

theorem impl_InRange_is (a b c : Int) : impl_InRange a b c = some (decide (b ≤ a ∧ a ≤ c)) := by
  unfold impl_InRange
  simp only [ge_d, le_d, cond_dec]
  by_cases h1 : b ≤ a <;> by_cases h2 : a ≤ c <;> simp [h1, h2]

end D
end Go.Sh
set_option linter.unusedVariables false
set_option linter.unusedSimpArgs false
set_option synthInstance.maxSize 100000
set_option maxHeartbeats 1000000
namespace Go.Sh
open Go Data
namespace D
/-! ## Counts -/

end D
end Go.Sh
set_option linter.unusedVariables false
set_option linter.unusedSimpArgs false
set_option synthInstance.maxSize 100000
set_option maxHeartbeats 1000000
namespace Go.Sh
open Go Data
namespace D
end D
end Go.Sh
set_option linter.unusedVariables false
set_option linter.unusedSimpArgs false
set_option synthInstance.maxSize 100000
set_option maxHeartbeats 1000000
namespace Go.Sh
open Go Data
namespace D
end D
end Go.Sh
set_option linter.unusedVariables false
set_option linter.unusedSimpArgs false
set_option synthInstance.maxSize 100000
set_option maxHeartbeats 1000000
namespace Go.Sh
open Go Data
namespace D
end D
end Go.Sh
set_option linter.unusedVariables false
set_option linter.unusedSimpArgs false
set_option synthInstance.maxSize 100000
set_option maxHeartbeats 1000000
namespace Go.Sh
open Go Data
namespace D
end D
end Go.Sh
set_option linter.unusedVariables false
set_option linter.unusedSimpArgs false
set_option synthInstance.maxSize 100000
set_option maxHeartbeats 1000000
namespace Go.Sh
open Go Data
namespace D
end D
end Go.Sh
set_option linter.unusedVariables false
set_option linter.unusedSimpArgs false
set_option synthInstance.maxSize 100000
set_option maxHeartbeats 1000000
namespace Go.Sh
open Go Data
namespace D
/-! ### Addresses, resources, captures -/
def addrP (a : Address) : Bool := decide (1 ≤ a.1 ∧ a.1 ≤ 9) && decide (0 ≤ a.2.1 ∧ a.2.1 ≤ 99) && decide (0 ≤ a.2.2 ∧ a.2.2 ≤ 99)

theorem spec_IsAddress_is (a : Address) : spec_IsAddress a = some (addrP a) := by
  unfold spec_IsAddress addrP
  simp only [spec_l1In_is, bind_some']
  cases decide (1 ≤ a.1 ∧ a.1 ≤ 9) <;> cases decide (0 ≤ a.2.1 ∧ a.2.1 ≤ 99) <;> simp

theorem impl_IsAddress_is (a : Address) : impl_IsAddress a = some (addrP a) := by
  unfold impl_IsAddress addrP
  simp only [impl_InRange_is, bind_some']
  cases decide (1 ≤ a.1 ∧ a.1 ≤ 9) <;> cases decide (0 ≤ a.2.1 ∧ a.2.1 ≤ 99) <;> simp

end D
end Go.Sh
set_option linter.unusedVariables false
set_option linter.unusedSimpArgs false
set_option synthInstance.maxSize 100000
set_option maxHeartbeats 1000000
namespace Go.Sh
open Go Data
namespace D
end D
end Go.Sh
set_option linter.unusedVariables false
set_option linter.unusedSimpArgs false
set_option synthInstance.maxSize 100000
set_option maxHeartbeats 1000000
namespace Go.Sh
open Go Data
namespace D
end D
end Go.Sh
set_option linter.unusedVariables false
set_option linter.unusedSimpArgs false
set_option synthInstance.maxSize 100000
set_option maxHeartbeats 1000000
namespace Go.Sh
open Go Data
/-! ## What is drawn: it comes back, and keeps its bounds -/
def Gets {α : Type} (P : α → Prop) (r : Option α) : Prop := ∃ x, r = some x ∧ P x

section
variable {α β S R : Type} {P : α → Prop} {Q : R → Prop}
theorem Gets.bind {x : Option α} {f : α → Option R} (h : Gets P x) (hf : ∀ a, P a → Gets Q (f a)) : Gets Q (N.bind x f) := by
  obtain ⟨a, rfl, ha⟩ := h; exact hf a ha

theorem Gets.cond {b : Bool} {x y : Option R} (h1 : b = true → Gets Q x) (h2 : b = false → Gets Q y) : Gets Q (N.cond b x y) := by
  unfold N.cond; cases b
  · exact h2 rfl
  · exact h1 rfl

theorem Gets.ite {c : Prop} [Decidable c] {x y : Option R} (hc : c) (h : Gets Q x) : Gets Q (N.ite c x y) := by rw [nite_pos hc]; exact h

end
def few {α : Type} [Data α] (n : Nat) (xs : List α) : Prop := xs.length ≤ n ∧ ∀ x ∈ xs, ok x

theorem few.ok {α : Type} [Data α] {n : Nat} {xs : List α} (h : few n xs) (hn : n ≤ 1048576) : ok xs := ⟨Nat.le_trans h.1 hn, h.2⟩

namespace D
end D
end Go.Sh
set_option linter.unusedVariables false
set_option linter.unusedSimpArgs false
set_option synthInstance.maxSize 100000
set_option maxHeartbeats 2000000
namespace Go.Sh
open Go Data
namespace D
end D
end Go.Sh
set_option linter.unusedVariables false
set_option linter.unusedSimpArgs false
set_option synthInstance.maxSize 100000
set_option maxHeartbeats 2000000
namespace Go.Sh
open Go Data
namespace D
end D
end Go.Sh
set_option linter.unusedVariables false
set_option linter.unusedSimpArgs false
set_option synthInstance.maxSize 100000
set_option maxHeartbeats 4000000
namespace Go.Sh
open Go Data
namespace D
end D
end Go.Sh
set_option linter.unusedVariables false
set_option linter.unusedSimpArgs false
set_option synthInstance.maxSize 100000
set_option maxHeartbeats 4000000
namespace Go.Sh
open Go Data
namespace D
end D
end Go.Sh
set_option linter.unusedVariables false
set_option linter.unusedSimpArgs false
set_option synthInstance.maxSize 100000
set_option maxHeartbeats 4000000
namespace Go.Sh
open Go Data
namespace D
end D
end Go.Sh
set_option linter.unusedVariables false
set_option linter.unusedSimpArgs false
set_option synthInstance.maxSize 100000
set_option maxHeartbeats 4000000
namespace Go.Sh
open Go Data
namespace D
end D
end Go.Sh
set_option linter.unusedVariables false
set_option linter.unusedSimpArgs false
set_option synthInstance.maxSize 100000
set_option maxHeartbeats 4000000
namespace Go.Sh
open Go Data
namespace D
end D
end Go.Sh
set_option linter.unusedVariables false
set_option linter.unusedSimpArgs false
set_option synthInstance.maxSize 100000
set_option maxHeartbeats 4000000
namespace Go.Sh
open Go Data
namespace D
end D
end Go.Sh
set_option linter.unusedVariables false
set_option linter.unusedSimpArgs false
set_option synthInstance.maxSize 100000
set_option maxHeartbeats 4000000
namespace Go.Sh
open Go Data
end Go.Sh
set_option linter.unusedVariables false
set_option linter.unusedSimpArgs false
set_option synthInstance.maxSize 100000
set_option maxHeartbeats 4000000
namespace Go.Sh
open Go Data
namespace D
end D
end Go.Sh
set_option linter.unusedVariables false
set_option linter.unusedSimpArgs false
set_option synthInstance.maxSize 100000
set_option maxHeartbeats 4000000
namespace Go.Sh
open Go Data
namespace D
end D
end Go.Sh
set_option linter.unusedVariables false
set_option linter.unusedSimpArgs false
set_option synthInstance.maxSize 100000
set_option maxHeartbeats 4000000
namespace Go.Sh
open Go Data
namespace D
end D
end Go.Sh
set_option linter.unusedVariables false
set_option linter.unusedSimpArgs false
set_option synthInstance.maxSize 100000
set_option maxHeartbeats 4000000
namespace Go.Sh
open Go Data
namespace D
end D
end Go.Sh
set_option linter.unusedVariables false
set_option linter.unusedSimpArgs false
set_option synthInstance.maxSize 100000
set_option maxHeartbeats 4000000
namespace Go.Sh
open Go Data
namespace D
end D
end Go.Sh
set_option linter.unusedVariables false
set_option linter.unusedSimpArgs false
set_option synthInstance.maxSize 100000
set_option maxHeartbeats 4000000
namespace Go.Sh
open Go Data
namespace D
end D
end Go.Sh
set_option linter.unusedVariables false
set_option linter.unusedSimpArgs false
set_option synthInstance.maxSize 100000
set_option maxHeartbeats 4000000
namespace Go.Sh
open Go Data
namespace D
end D
end Go.Sh
set_option linter.unusedVariables false
set_option linter.unusedSimpArgs false
set_option synthInstance.maxSize 100000
set_option maxHeartbeats 4000000
namespace Go.Sh
open Go Data
namespace D
end D
end Go.Sh
set_option linter.unusedVariables false
set_option linter.unusedSimpArgs false
set_option synthInstance.maxSize 100000
set_option maxHeartbeats 4000000
namespace Go.Sh
open Go Data
namespace D
end D
end Go.Sh
set_option linter.unusedVariables false
set_option linter.unusedSimpArgs false
set_option synthInstance.maxSize 100000
set_option maxHeartbeats 4000000
namespace Go.Sh
open Go Data
namespace D
end D
end Go.Sh
set_option linter.unusedVariables false
set_option linter.unusedSimpArgs false
set_option synthInstance.maxSize 100000
set_option maxHeartbeats 4000000
namespace Go.Sh
open Go Data
namespace D
end D
end Go.Sh
set_option linter.unusedVariables false
set_option linter.unusedSimpArgs false
set_option synthInstance.maxSize 100000
set_option maxHeartbeats 4000000
namespace Go.Sh
open Go Data
namespace D
end D
end Go.Sh
set_option linter.unusedVariables false
set_option linter.unusedSimpArgs false
set_option synthInstance.maxSize 100000
set_option maxHeartbeats 4000000
namespace Go.Sh
open Go Data
namespace D
end D
end Go.Sh
set_option linter.unusedVariables false
set_option linter.unusedSimpArgs false
set_option synthInstance.maxSize 100000
set_option maxHeartbeats 4000000
namespace Go.Sh
open Go Data
namespace D
end D
end Go.Sh
set_option linter.unusedVariables false
set_option linter.unusedSimpArgs false
set_option synthInstance.maxSize 100000
set_option maxHeartbeats 4000000
namespace Go.Sh
open Go Data
namespace D
end D
end Go.Sh
set_option linter.unusedVariables false
set_option linter.unusedSimpArgs false
set_option synthInstance.maxSize 100000
set_option maxHeartbeats 4000000
namespace Go.Sh
open Go Data
namespace D
end D
end Go.Sh
set_option linter.unusedVariables false
set_option linter.unusedSimpArgs false
set_option synthInstance.maxSize 100000
set_option maxHeartbeats 4000000
namespace Go.Sh
open Go Data
namespace D
end D
end Go.Sh
set_option linter.unusedVariables false
set_option linter.unusedSimpArgs false
set_option synthInstance.maxSize 100000
set_option maxHeartbeats 4000000
namespace Go.Sh
open Go Data
namespace D
end D
end Go.Sh
set_option linter.unusedVariables false
set_option linter.unusedSimpArgs false
set_option maxRecDepth 100000
set_option maxHeartbeats 4000000
namespace Go.Sh
open Go Data
namespace D
end D
end Go.Sh
set_option linter.unusedVariables false
set_option linter.unusedSimpArgs false
set_option synthInstance.maxSize 100000
set_option maxHeartbeats 4000000
namespace Go.Sh
open Go Data
namespace D
def digits (b : List Int) : Prop := b.length ≤ 4 ∧ ∀ v ∈ b, 0 ≤ v ∧ v ≤ 8

end D
end Go.Sh
set_option linter.unusedVariables false
set_option linter.unusedSimpArgs false
set_option synthInstance.maxSize 100000
set_option maxHeartbeats 4000000
namespace Go.Sh
open Go Data
namespace D
end D
end Go.Sh
set_option linter.unusedVariables false
set_option linter.unusedSimpArgs false
namespace Go.Sh.D
open Go
end Go.Sh.D
set_option linter.unusedVariables false
set_option linter.unusedSimpArgs false
namespace Go.Sh.D
open Go
end Go.Sh.D
set_option linter.unusedVariables false
set_option linter.unusedSimpArgs false
namespace Go.Sh.D
open Go
end Go.Sh.D
set_option linter.unusedVariables false
set_option linter.unusedSimpArgs false
namespace Go.Sh.D
open Go
end Go.Sh.D
set_option linter.unusedVariables false
set_option linter.unusedSimpArgs false
namespace Go.Sh.D
open Go
end Go.Sh.D
set_option linter.unusedVariables false
set_option linter.unusedSimpArgs false
namespace Go.Sh.D
open Go
end Go.Sh.D
set_option linter.unusedVariables false
set_option linter.unusedSimpArgs false
namespace Go.Sh.D
open Go
end Go.Sh.D
set_option linter.unusedVariables false
set_option linter.unusedSimpArgs false
namespace Go.Sh.D
open Go
end Go.Sh.D
set_option linter.unusedVariables false
set_option linter.unusedSimpArgs false
namespace Go.Sh.D
open Go
end Go.Sh.D
set_option linter.unusedVariables false
set_option linter.unusedSimpArgs false
namespace Go.Sh.D
open Go Data
end Go.Sh.D
set_option linter.unusedVariables false
set_option linter.unusedSimpArgs false
namespace Go.Sh.D
open Go Data
end Go.Sh.D
set_option linter.unusedVariables false
set_option linter.unusedSimpArgs false
namespace Go.Sh.D
open Go Data
end Go.Sh.D
set_option linter.unusedVariables false
set_option linter.unusedSimpArgs false
namespace Go.Sh.D
open Go Data
end Go.Sh.D
set_option linter.unusedVariables false
set_option linter.unusedSimpArgs false
namespace Go.Sh.D
open Go Data
end Go.Sh.D
set_option linter.unusedVariables false
set_option linter.unusedSimpArgs false
namespace Go.Sh.D
open Go Data
end Go.Sh.D
set_option linter.unusedVariables false
set_option linter.unusedSimpArgs false
namespace Go.Sh.D
open Go Data
end Go.Sh.D
set_option linter.unusedVariables false
set_option linter.unusedSimpArgs false
namespace Go.Sh.D
open Go Data
end Go.Sh.D
set_option linter.unusedVariables false
set_option linter.unusedSimpArgs false
namespace Go.Sh.D
open Go Data
end Go.Sh.D
set_option linter.unusedVariables false
set_option linter.unusedSimpArgs false
namespace Go.Sh.D
open Go Data
end Go.Sh.D
set_option linter.unusedVariables false
set_option linter.unusedSimpArgs false
namespace Go.Sh.D
open Go Data
end Go.Sh.D
set_option linter.unusedVariables false
set_option linter.unusedSimpArgs false
namespace Go.Sh.D
open Go Data
end Go.Sh.D
set_option linter.unusedVariables false
set_option linter.unusedSimpArgs false
namespace Go.Sh
open Go
namespace D
/-! ## Strings as lists -/
abbrev St (l : List UInt8) : ByteArray := ⟨l.toArray⟩
theorem lit_st (l : List UInt8) : N.lit l = St l := rfl
theorem nostr_st : N.nostr = St [] := rfl
theorem cat_st (a b : List UInt8) : N.cat (St a) (St b) = St (a ++ b) := by
  unfold N.cat
  apply ByteArray.ext
  simp [ByteArray.data_append]
theorem size_st (a : List UInt8) : (St a).size = a.length := by simp [ByteArray.size]
theorem fits_st {a b : List UInt8} (h : a.length + b.length ≤ 4611686018427387904) : N.catFits (St a) (St b) := by
  unfold N.catFits; rw [size_st, size_st]; omega
theorem ofBytes_st (x : Int) : N.ofBytes [x] = St [UInt8.ofNat x.toNat] := rfl
/-! ## Numerals -/
theorem rem_nat (x : Nat) : N.rem (x : Int) 10 = ((x % 10 : Nat) : Int) := by unfold N.rem; exact (Int.ofNat_tmod x 10).symm
theorem quo_nat (x : Nat) (h : x < 1000000000000000000) : N.quo .i64 (x : Int) 10 = ((x / 10 : Nat) : Int) := by
  unfold N.quo
  have e : Int.tdiv (x : Int) 10 = ((x / 10 : Nat) : Int) := (Int.ofNat_tdiv x 10).symm
  rw [e]
  exact wrap_id (by omega) (by omega)
theorem conv8 (d : Nat) (h : d < 10) : N.conv .u8 (N.add .i64 48 (d : Int)) = ((48 + d : Nat) : Int) := by
  rw [add_id (by omega) (by omega)]
  have : d = 0 ∨ d = 1 ∨ d = 2 ∨ d = 3 ∨ d = 4 ∨ d = 5 ∨ d = 6 ∨ d = 7 ∨ d = 8 ∨ d = 9 := by omega
  rcases this with h | h | h | h | h | h | h | h | h | h <;> subst h <;> rfl

/-- the digits of a number; none for 0 -/
def digs (u : Nat) : List UInt8 := if u = 0 then [] else Lib.decDigits u
theorem digs_step (u : Nat) (h : u ≠ 0) : digs u = digs (u / 10) ++ [UInt8.ofNat (48 + u % 10)] := by
  unfold digs
  rw [if_neg h]
  rw [Lib.decDigits]
  split
  · rename_i h1
    have : u / 10 = 0 := by omega
    rw [if_pos this]
    have : u % 10 = u := by omega
    rw [this]; rfl
  · rename_i h1
    have : u / 10 ≠ 0 := by omega
    rw [if_neg this]

def fmtBody (x0 : Int) : ByteArray × Int → Option ((ByteArray × Int) ⊕ ByteArray) := fun s1 =>
  N.cond (N.ne s1.2 0)
    (N.cond (N.lt (N.rem s1.2 10) 0)
      (N.ite (N.catFits (N.ofBytes [N.conv .u8 (N.add .i64 48 (N.sub .i64 0 (N.rem s1.2 10)))]) s1.1)
        (some (.inl (N.cat (N.ofBytes [N.conv .u8 (N.add .i64 48 (N.sub .i64 0 (N.rem s1.2 10)))]) s1.1, N.quo .i64 s1.2 10)))
        none)
      (N.ite (N.catFits (N.ofBytes [N.conv .u8 (N.add .i64 48 (N.rem s1.2 10))]) s1.1)
        (some (.inl (N.cat (N.ofBytes [N.conv .u8 (N.add .i64 48 (N.rem s1.2 10))]) s1.1, N.quo .i64 s1.2 10)))
        none))
    (Option.map Sum.inr (N.cond (N.lt x0 0) (N.ite (N.catFits (N.lit [45]) s1.1) (some (N.cat (N.lit [45]) s1.1)) none) (some s1.1)))

theorem fmt_loop (x0 : Int) (h0 : 0 ≤ x0) : ∀ (k u : Nat) (acc : List UInt8), u < 10 ^ k → u < 1000000000000000000 → acc.length + k ≤ 1000 → loopF (fmtBody x0) (St acc, (u : Int)) = some (St (digs u ++ acc)) := by
  intro k
  induction k with
  | zero =>
    intro u acc h1 _ h2
    have : u = 0 := by simp at h1; exact h1
    subst this
    refine loopF_inr ?_
    unfold fmtBody
    simp only [ne_d, lt_d, cond_dec]
    rw [if_neg (by simp), if_neg (by omega)]
    rfl
  | succ k ih =>
    intro u acc h1 h3 h2
    by_cases hu : u = 0
    · subst hu
      refine loopF_inr ?_
      unfold fmtBody
      simp only [ne_d, lt_d, cond_dec]
      rw [if_neg (by simp), if_neg (by omega)]
      rfl
    · have hd : u % 10 < 10 := Nat.mod_lt _ (by omega)
      have hs : fmtBody x0 (St acc, (u : Int)) = some (.inl (St (UInt8.ofNat (48 + u % 10) :: acc), ((u / 10 : Nat) : Int))) := by
        unfold fmtBody
        simp only [ne_d, lt_d, cond_dec, rem_nat]
        rw [if_pos (by omega), if_neg (by omega), conv8 _ hd, ofBytes_st, nite_pos (fits_st (by simp; omega)), cat_st, quo_nat u h3]
        rfl
      rw [loopF_inl hs, ih (u / 10) _ (by rw [Nat.pow_succ] at h1; omega) (by omega) (by simp; omega), digs_step u hu]
      simp

theorem fmt_is (u : Nat) (h : u < 1000000000000000000) : spec_FormatInt (u : Int) = some (St (Lib.decDigits u)) := by
  unfold spec_FormatInt
  by_cases hu : u = 0
  · subst hu; simp [N.eq, Lib.decDigits]; rfl
  · have h1 : N.eq (u : Int) 0 = false := by rw [eq_d]; simp [hu]
    rw [h1]
    have h2 := fmt_loop (u : Int) (by omega) 18 u [] (by simpa using h) h (by simp)
    have h3 : digs u = Lib.decDigits u := by unfold digs; rw [if_neg hu]
    rw [h3, List.append_nil] at h2
    exact h2
theorem itoa_is (u : Nat) (h : u < 1000000000000000000) : impl_FormatInt (u : Int) = some (St (Lib.decDigits u)) := by
  unfold impl_FormatInt strconv_Itoa N.itoa Lib.itoa
  rw [if_pos (by omega), if_neg (by omega)]
  rfl
theorem fmt_int {n : Int} (h0 : 0 ≤ n) (h : n < 1000000000000000000) : spec_FormatInt n = some (St (Lib.decDigits n.toNat)) := by
  obtain ⟨u, rfl⟩ : ∃ u : Nat, n = u := ⟨n.toNat, by omega⟩
  exact fmt_is u (by omega)
theorem itoa_int {n : Int} (h0 : 0 ≤ n) (h : n < 1000000000000000000) : impl_FormatInt n = some (St (Lib.decDigits n.toNat)) := by
  obtain ⟨u, rfl⟩ : ∃ u : Nat, n = u := ⟨n.toNat, by omega⟩
  exact itoa_is u (by omega)
end D
end Go.Sh
set_option linter.unusedVariables false
set_option linter.unusedSimpArgs false
namespace Go.Sh
open Go Data
namespace D
theorem digs_len : ∀ (k u : Nat), u < 10 ^ k → (digs u).length ≤ k
  | 0, u, h => by
    have : u = 0 := by simpa using h
    subst this; simp [digs]
  | k + 1, u, h => by
    by_cases hu : u = 0
    · subst hu; simp [digs]
    · rw [digs_step u hu]
      have := digs_len k (u / 10) (by rw [Nat.pow_succ] at h; omega)
      simp; omega
theorem dec_len {u : Nat} (h : u < 1000000000000000000) : (Lib.decDigits u).length ≤ 18 := by
  by_cases hu : u = 0
  · subst hu; rw [Lib.decDigits_one (by omega)]; simp
  · have := digs_len 18 u (by simpa using h)
    unfold digs at this
    rw [if_neg hu] at this
    exact this
def dec (n : Int) : List UInt8 := Lib.decDigits n.toNat
theorem dec_le {n : Int} (h0 : 0 ≤ n) (h : n < 1000000000000000000) : (dec n).length ≤ 18 := dec_len (by omega)

def addrL (a : Address) : List UInt8 := dec a.1 ++ 47 :: dec a.2.1 ++ (if a.2.2 = 0 then [] else 63 :: dec a.2.2)
theorem addrP_is (a : Address) : addrP a = true ↔ (1 ≤ a.1 ∧ a.1 ≤ 9) ∧ (0 ≤ a.2.1 ∧ a.2.1 ≤ 99) ∧ (0 ≤ a.2.2 ∧ a.2.2 ≤ 99) := by
  unfold addrP
  simp only [Bool.and_eq_true, decide_eq_true_eq, and_assoc]
theorem addrL_len {a : Address} (h : addrP a = true) : (addrL a).length ≤ 60 := by
  obtain ⟨h1, h2, h3⟩ := (addrP_is a).1 h
  have l1 := dec_le (n := a.1) (by omega) (by omega)
  have l2 := dec_le (n := a.2.1) (by omega) (by omega)
  have l3 := dec_le (n := a.2.2) (by omega) (by omega)
  unfold addrL
  split <;> simp <;> omega

theorem spec_AddressText_is (a : Address) : spec_AddressText a = some (St (if addrP a = true then addrL a else [])) := by
  unfold spec_AddressText
  rw [spec_IsAddress_is, bind_some']
  by_cases h : addrP a = true
  · obtain ⟨h1, h2, h3⟩ := (addrP_is a).1 h
    have l1 := dec_le (n := a.1) (by omega) (by omega)
    have l2 := dec_le (n := a.2.1) (by omega) (by omega)
    have l3 := dec_le (n := a.2.2) (by omega) (by omega)
    have f1 : spec_FormatInt a.1 = some (St (dec a.1)) := fmt_int (by omega) (by omega)
    have f2 : spec_FormatInt a.2.1 = some (St (dec a.2.1)) := fmt_int (by omega) (by omega)
    have f3 : spec_FormatInt a.2.2 = some (St (dec a.2.2)) := fmt_int (by omega) (by omega)
    rw [h]
    simp only [N.not, Bool.not_true, cond_false, f1, f2, f3, bind_some', lit_st, if_true]
    rw [nite_pos (fits_st (by simp; omega))]
    simp only [cat_st]
    rw [nite_pos (fits_st (by simp; omega))]
    simp only [ne_d, cond_dec]
    by_cases hq : a.2.2 = 0
    · rw [if_neg (by omega)]
      unfold addrL
      rw [if_pos hq]; simp
    · rw [if_pos hq, nite_pos (fits_st (by simp; omega)), nite_pos (fits_st (by simp; omega))]
      unfold addrL
      rw [if_neg hq]; simp
  · have h' : addrP a = false := by simpa using h
    rw [h']; rfl

theorem impl_AddressText_is (a : Address) : impl_AddressText a = some (St (if addrP a = true then addrL a else [])) := by
  unfold impl_AddressText
  rw [impl_IsAddress_is, bind_some']
  by_cases h : addrP a = true
  · obtain ⟨h1, h2, h3⟩ := (addrP_is a).1 h
    have l1 := dec_le (n := a.1) (by omega) (by omega)
    have l2 := dec_le (n := a.2.1) (by omega) (by omega)
    have l3 := dec_le (n := a.2.2) (by omega) (by omega)
    have f1 : impl_FormatInt a.1 = some (St (dec a.1)) := itoa_int (by omega) (by omega)
    have f2 : impl_FormatInt a.2.1 = some (St (dec a.2.1)) := itoa_int (by omega) (by omega)
    have f3 : impl_FormatInt a.2.2 = some (St (dec a.2.2)) := itoa_int (by omega) (by omega)
    rw [h]
    simp only [N.not, Bool.not_true, cond_false, f1, f2, f3, bind_some', lit_st, if_true]
    rw [nite_pos (fits_st (by simp; omega))]
    simp only [cat_st]
    rw [nite_pos (fits_st (by simp; omega))]
    simp only [ne_d, cond_dec]
    by_cases hq : a.2.2 = 0
    · rw [if_neg (by omega)]
      unfold addrL
      rw [if_pos hq]; simp
    · rw [if_pos hq, nite_pos (fits_st (by simp; omega)), nite_pos (fits_st (by simp; omega))]
      unfold addrL
      rw [if_neg hq]; simp
  · have h' : addrP a = false := by simpa using h
    rw [h']; rfl

/-- an address shown at a tick of its recording -/
def shownP (x : Shown) : Bool := decide (0 ≤ x.1 ∧ x.1 ≤ 2000) && addrP x.2
def shownL (x : Shown) : List UInt8 := [97, 114, 99, 104, 105, 118, 101, 47] ++ dec x.1 ++ 47 :: addrL x.2
def shownT (x : Shown) : List UInt8 := if shownP x = true then shownL x else []
theorem shownP_is (x : Shown) : shownP x = true ↔ (0 ≤ x.1 ∧ x.1 ≤ 2000) ∧ addrP x.2 = true := by
  unfold shownP; simp only [Bool.and_eq_true, decide_eq_true_eq]

theorem spec_ShownText_is (x : Shown) : spec_ShownText x = some (St (shownT x)) := by
  unfold spec_ShownText shownT
  rw [spec_l1In_is, bind_some', spec_IsAddress_is]
  by_cases h : 0 ≤ x.1 ∧ x.1 ≤ 2000
  · have l1 := dec_le (n := x.1) (by omega) (by omega)
    have f1 : spec_FormatInt x.1 = some (St (dec x.1)) := fmt_int (by omega) (by omega)
    by_cases ha : addrP x.2 = true
    · have l2 := addrL_len ha
      rw [if_pos ((shownP_is x).2 ⟨h, ha⟩), spec_AddressText_is, ha]
      simp only [N.not, h, and_self, decide_true, Bool.not_true, cond_false, f1, bind_some', lit_st, if_true]
      rw [nite_pos (fits_st (by simp; omega))]
      simp only [cat_st]
      rw [nite_pos (fits_st (by simp; omega)), nite_pos (fits_st (by simp; omega))]
      unfold shownL
      simp
    · rw [if_neg (fun e => ha ((shownP_is x).1 e).2)]
      have h' : addrP x.2 = false := by simpa using ha
      simp only [h', N.not, h, and_self, decide_true, Bool.not_true, Bool.not_false, cond_true, cond_false, bind_some', nostr_st]
  · rw [if_neg (fun e => h ((shownP_is x).1 e).1)]
    simp only [N.not, h, decide_false, Bool.not_false, cond_true, nostr_st]
theorem impl_ShownText_is (x : Shown) : impl_ShownText x = some (St (shownT x)) := by
  unfold impl_ShownText shownT
  rw [impl_InRange_is, bind_some', impl_IsAddress_is]
  by_cases h : 0 ≤ x.1 ∧ x.1 ≤ 2000
  · have l1 := dec_le (n := x.1) (by omega) (by omega)
    have f1 : impl_FormatInt x.1 = some (St (dec x.1)) := itoa_int (by omega) (by omega)
    by_cases ha : addrP x.2 = true
    · have l2 := addrL_len ha
      rw [if_pos ((shownP_is x).2 ⟨h, ha⟩), impl_AddressText_is, ha]
      simp only [N.not, h, and_self, decide_true, Bool.not_true, cond_false, f1, bind_some', lit_st, if_true]
      rw [nite_pos (fits_st (by simp; omega))]
      simp only [cat_st]
      rw [nite_pos (fits_st (by simp; omega)), nite_pos (fits_st (by simp; omega))]
      unfold shownL
      simp
    · rw [if_neg (fun e => ha ((shownP_is x).1 e).2)]
      have h' : addrP x.2 = false := by simpa using ha
      simp only [h', N.not, h, and_self, decide_true, Bool.not_true, Bool.not_false, cond_true, cond_false, bind_some', nostr_st]
  · rw [if_neg (fun e => h ((shownP_is x).1 e).1)]
    simp only [N.not, h, decide_false, Bool.not_false, cond_true, nostr_st]

theorem FnExactShownText_true (x : Shown) (hx : bd x) : laws_FnExactShownText x = some true := by
  unfold laws_FnExactShownText
  have hk : ok x := Flat.fl x hx
  simp only [laws_toShown_is _ hk, bind_some', spec_ShownText_is, impl_ShownText_is, neS_d, cond_dec]
  rw [if_neg (by simp)]

end D
end Go.Sh
