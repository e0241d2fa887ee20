/- The native forms of the functions that FnExactIsHiddenBy reaches, and their pure laws: FnExactIsHiddenBy is true for every input of bounded parts. No condition beyond the bounds that every input keeps. -/
import Derived.Test.YtggclcocablccabSh8
set_option linter.unusedVariables false
set_option maxRecDepth 100000
set_option maxHeartbeats 4000000
namespace Go.Sh
open Go
namespace N
def nostr : ByteArray := ByteArray.empty
def lit (l : List UInt8) : ByteArray := ⟨l.toArray⟩
end N
namespace D
abbrev Exclusion : Type := Int × Int × Int × Int × Int
abbrev Address : Type := Int × Int × Int
abbrev Resource : Type := Int × (List Int) × Address
abbrev Capture : Type := Address × Int × Resource
noncomputable def laws_toExclusion (x0 : Exclusion) : Option (Exclusion) :=
  some x0

noncomputable def spec_l1In (x0 : Int) (x1 : Int) (x2 : Int) : Option (Bool) :=
  N.cond (N.ge x0 x1)
    (some (N.le x0 x2))
    (some false)

noncomputable def spec_IsExclusion (x0 : Exclusion) : Option (Bool) :=
  N.bind (spec_l1In x0.1 1 9) fun r1 =>
    N.cond r1
      (
        N.bind (spec_l1In x0.2.1 (-1) 99) fun r2 =>
          N.cond r2
            (
              N.bind (spec_l1In x0.2.2.1 0 2000) fun r3 =>
                N.cond r3
                  (
                    N.bind (spec_l1In x0.2.2.2.1 x0.2.2.1 2000) fun r4 =>
                      N.cond r4
                        (
                          N.bind (spec_l1In x0.2.2.2.2 0 2000) fun r5 =>
                            some r5)
                        (some false))
                  (some false))
            (some false))
      (some false)

noncomputable def impl_InRange (x0 : Int) (x1 : Int) (x2 : Int) : Option (Bool) :=
  N.cond (N.le x1 x0)
    (some (N.le x0 x2))
    (some false)

noncomputable def impl_IsExclusion (x0 : Exclusion) : Option (Bool) :=
  N.bind (impl_InRange x0.1 1 9) fun r1 =>
    N.cond r1
      (
        N.bind (impl_InRange x0.2.1 (-1) 99) fun r2 =>
          N.cond r2
            (
              N.bind (impl_InRange x0.2.2.1 0 x0.2.2.2.1) fun r3 =>
                N.cond r3
                  (
                    N.cond (N.le x0.2.2.2.1 2000)
                      (
                        N.bind (impl_InRange x0.2.2.2.2 0 2000) fun r4 =>
                          some r4)
                      (some false))
                  (some false))
            (some false))
      (some false)

noncomputable def laws_toIntS (x0 : List Int) : Option (List Int) :=
  N.ite (0 ≤ N.len x0)
    (
      N.ite (N.room (N.len x0) 8)
        (
          loopF (fun (s1 : Int × List Int) =>
              N.cond (N.lt s1.1 (N.len x0))
                (
                  N.ite (0 ≤ s1.1)
                    (
                      N.ite (s1.1 < N.len x0)
                        (
                          N.ite (0 ≤ s1.1)
                            (
                              N.ite (s1.1 < N.len s1.2)
                                (some (.inl (N.add .i64 s1.1 1, N.set s1.2 s1.1 (N.rd x0 s1.1 0))))
                                none)
                            none)
                        none)
                    none)
                (some (.inr s1.2)))
            (0, N.rep (N.len x0) 0))
        none)
    none

noncomputable def laws_eqIntS (x0 : List Int) (x1 : List Int) : Option (Bool) :=
  N.cond (N.ne (N.len x0) (N.len x1))
    (some false)
    (
      loopF (fun (s1 : Int) =>
          N.cond (N.lt s1 (N.len x0))
            (
              N.ite (0 ≤ s1)
                (
                  N.ite (s1 < N.len x0)
                    (
                      N.ite (0 ≤ s1)
                        (
                          N.ite (s1 < N.len x1)
                            (
                              N.cond (N.ne (N.rd x0 s1 0) (N.rd x1 s1 0))
                                (some (.inr false))
                                (some (.inl (N.add .i64 s1 1))))
                            none)
                        none)
                    none)
                none)
            (some (.inr true)))
        0)

noncomputable def laws_szIntS (x0 : List Int) (x1 : Int) : Option (Int) :=
  N.cond (N.lt (N.sub .i64 x1 (N.len x0)) 0)
    (some (-1))
    (some (N.sub .i64 x1 (N.len x0)))

noncomputable def laws_szResource (x0 : Resource) (x1 : Int) : Option (Int) :=
  N.bind (laws_szIntS x0.2.1 x1) fun r1 =>
    N.cond (N.lt r1 0)
      (some (-1))
      (some r1)

noncomputable def laws_szCapture (x0 : Capture) (x1 : Int) : Option (Int) :=
  N.bind (laws_szResource x0.2.2 x1) fun r1 =>
    N.cond (N.lt r1 0)
      (some (-1))
      (some r1)

noncomputable def laws_toAddress (x0 : Address) : Option (Address) :=
  some x0

noncomputable def laws_toResource (x0 : Resource) : Option (Resource) :=
  N.bind (laws_toIntS x0.2.1) fun r1 =>
    N.bind (laws_toAddress x0.2.2) fun r2 =>
      some (x0.1, r1, r2)

noncomputable def laws_toCapture (x0 : Capture) : Option (Capture) :=
  N.bind (laws_toAddress x0.1) fun r1 =>
    N.bind (laws_toResource x0.2.2) fun r2 =>
      some (r1, x0.2.1, r2)

noncomputable def spec_l25Meets (x0 : Exclusion) (x1 : Capture) : Option (Bool) :=
  N.bind (spec_IsExclusion x0) fun r1 =>
    N.cond r1
      (
        N.cond (N.eq x0.1 x1.1.1)
          (
            N.cond (N.eq x0.2.1 (-1))
              (
                N.bind (spec_l1In x1.2.1 x0.2.2.1 x0.2.2.2.1) fun r2 =>
                  some r2)
              (
                N.cond (N.eq x0.2.1 x1.1.2.1)
                  (
                    N.bind (spec_l1In x1.2.1 x0.2.2.1 x0.2.2.2.1) fun r3 =>
                      some r3)
                  (some false)))
          (some false))
      (some false)

noncomputable def spec_IsHiddenBy (x0 : Exclusion) (x1 : Capture) (x2 : Int) : Option (Bool) :=
  N.bind (spec_l25Meets x0 x1) fun r1 =>
    N.cond r1
      (some (N.ge x2 x0.2.2.2.2))
      (some false)

noncomputable def impl_Exclusion_hides (x0 : Exclusion) (x1 : Capture) : Option (Bool) :=
  N.bind (impl_IsExclusion x0) fun r1 =>
    N.cond r1
      (
        N.cond (N.eq x1.1.1 x0.1)
          (
            N.cond (N.eq x0.2.1 (-1))
              (
                N.bind (impl_InRange x1.2.1 x0.2.2.1 x0.2.2.2.1) fun r2 =>
                  some r2)
              (
                N.cond (N.eq x1.1.2.1 x0.2.1)
                  (
                    N.bind (impl_InRange x1.2.1 x0.2.2.1 x0.2.2.2.1) fun r3 =>
                      some r3)
                  (some false)))
          (some false))
      (some false)

noncomputable def impl_IsHiddenBy (x0 : Exclusion) (x1 : Capture) (x2 : Int) : Option (Bool) :=
  N.cond (N.ge x2 x0.2.2.2.2)
    (
      N.bind (impl_Exclusion_hides x0 x1) fun r1 =>
        some r1)
    (some false)

noncomputable def laws_eqAddress (x0 : Address) (x1 : Address) : Option (Bool) :=
  N.cond (N.ne x0.1 x1.1)
    (some false)
    (
      N.cond (N.ne x0.2.1 x1.2.1)
        (some false)
        (
          N.cond (N.ne x0.2.2 x1.2.2)
            (some false)
            (some true)))

noncomputable def laws_eqResource (x0 : Resource) (x1 : Resource) : Option (Bool) :=
  N.cond (N.ne x0.1 x1.1)
    (some false)
    (
      N.bind (laws_eqIntS x0.2.1 x1.2.1) fun r1 =>
        N.cond (N.not r1)
          (some false)
          (
            N.bind (laws_eqAddress x0.2.2 x1.2.2) fun r2 =>
              N.cond (N.not r2)
                (some false)
                (some true)))

noncomputable def laws_eqCapture (x0 : Capture) (x1 : Capture) : Option (Bool) :=
  N.bind (laws_eqAddress x0.1 x1.1) fun r1 =>
    N.cond (N.not r1)
      (some false)
      (
        N.cond (N.ne x0.2.1 x1.2.1)
          (some false)
          (
            N.bind (laws_eqResource x0.2.2 x1.2.2) fun r2 =>
              N.cond (N.not r2)
                (some false)
                (some true)))

noncomputable def laws_FnExactIsHiddenBy (x0 : Exclusion) (x1 : Capture) (x2 : Int) : Option (Bool) :=
  N.bind (laws_szCapture x1 1048576) fun r1 =>
    N.cond (N.lt r1 0)
      (some true)
      (
        N.bind (laws_toExclusion x0) fun r2 =>
          N.bind (laws_toCapture x1) fun r3 =>
            N.bind (spec_IsHiddenBy r2 r3 x2) fun r4 =>
              N.bind (laws_toCapture x1) fun r5 =>
                N.bind (laws_toExclusion x0) fun r6 =>
                  N.bind (impl_IsHiddenBy r6 r5 x2) fun r7 =>
                    N.cond (N.neB r7 r4)
                      (some false)
                      (
                        N.bind (laws_toCapture x1) fun r8 =>
                          N.bind (laws_eqCapture r5 r8) fun r9 =>
                            N.cond (N.not r9)
                              (some false)
                              (some true)))

end D
end Go.Sh
set_option linter.unusedVariables false
set_option linter.unusedSimpArgs false
namespace Go.Sh
open Go
/-! ## Loops -/
theorem loopN_det {S R : Type} {step : S → Option (S ⊕ R)} : ∀ {n m : Nat} {s : S} {a b : R}, loopN step n s = some a → loopN step m s = some b → a = b
  | 0, _, _, _, _, h, _ => by simp [loopN] at h
  | _ + 1, 0, _, _, _, _, h => by simp [loopN] at h
  | n + 1, m + 1, s, a, b, h1, h2 => by
    simp only [loopN] at h1 h2
    split at h1
    · cases h1
    · rename_i s' hs; rw [hs] at h2; exact loopN_det h1 h2
    · rename_i r hr; rw [hr] at h2; simp at h1 h2; rw [← h1, ← h2]

theorem loopF_of {S R : Type} {step : S → Option (S ⊕ R)} {s : S} {n : Nat} {r : R} (h : loopN step n s = some r) : loopF step s = some r := by
  have hx : ∃ n r, loopN step n s = some r := ⟨n, r, h⟩
  unfold loopF
  rw [dif_pos hx]
  obtain ⟨m, hm⟩ := Classical.choose_spec hx |> fun h => (⟨_, Classical.choose_spec h⟩ : ∃ v, loopN step (Classical.choose hx) s = some v)
  have := Classical.choose_spec (Classical.choose_spec hx)
  rw [loopN_det this h]

theorem loopF_inr {S R : Type} {step : S → Option (S ⊕ R)} {s : S} {r : R} (h : step s = some (.inr r)) : loopF step s = some r :=
  loopF_of (n := 1) (by simp [loopN, h])

theorem loopF_inl {S R : Type} {step : S → Option (S ⊕ R)} {s s' : S} (h : step s = some (.inl s')) : loopF step s = loopF step s' := by
  by_cases hx : ∃ n r, loopN step n s' = some r
  · obtain ⟨n, r, hn⟩ := hx
    rw [loopF_of hn, loopF_of (n := n + 1) (r := r) (by simp [loopN, h, hn])]
  · have hy : ¬ ∃ n r, loopN step n s = some r := by
      rintro ⟨n, r, hn⟩
      cases n with
      | zero => simp [loopN] at hn
      | succ n => simp only [loopN, h] at hn; exact hx ⟨n, r, hn⟩
    unfold loopF
    rw [dif_neg hx, dif_neg hy]

/-! ## Words -/
section
variable {R α β : Type}
@[simp] theorem bind_some' (x : β) (f : β → Option R) : N.bind (some x) f = f x := rfl
@[simp] theorem cond_true (x y : Option R) : N.cond true x y = x := rfl
@[simp] theorem cond_false (x y : Option R) : N.cond false x y = y := rfl
theorem cond_dec (p : Prop) [Decidable p] (x y : Option R) : N.cond (decide p) x y = if p then x else y := by unfold N.cond; by_cases h : p <;> simp [h]
theorem ite_if (c : Prop) [Decidable c] (x y : Option R) : N.ite c x y = if c then x else y := rfl
theorem nite_pos {c : Prop} [Decidable c] (h : c) (x y : Option R) : N.ite c x y = x := if_pos h
theorem lt_d (a b : Int) : N.lt a b = decide (a < b) := rfl
theorem le_d (a b : Int) : N.le a b = decide (a ≤ b) := rfl
theorem ge_d (a b : Int) : N.ge a b = decide (b ≤ a) := rfl
theorem eq_d (a b : Int) : N.eq a b = decide (a = b) := rfl
theorem ne_d (a b : Int) : N.ne a b = decide (¬ a = b) := by
  unfold N.ne; by_cases h : a = b <;> simp [h]
theorem len_d (xs : List α) : N.len xs = (xs.length : Int) := by simp [N.len]
theorem rd_at (xs : List α) (k : Nat) (hk : k < xs.length) (d : α) : N.rd xs (k : Int) d = xs[k] := by
  simp [N.rd, List.getD, hk]
theorem wrap_id {n : Int} (h1 : -9223372036854775808 ≤ n) (h2 : n < 9223372036854775808) : IntKind.i64.wrap n = n := by
  have e1 : ((2 : Int) ^ IntKind.i64.bits) = 18446744073709551616 := by decide
  have e2 : ((2 : Int) ^ (IntKind.i64.bits - 1)) = 9223372036854775808 := by decide
  have e3 : IntKind.i64.signed = true := rfl
  unfold IntKind.wrap
  rw [e1, e2, e3]
  simp only [Bool.true_and, decide_eq_true_eq]
  split <;> omega
theorem add_id {a b : Int} (h1 : -9223372036854775808 ≤ a + b) (h2 : a + b < 9223372036854775808) : N.add .i64 a b = a + b := wrap_id h1 h2
theorem sub_id {a b : Int} (h1 : -9223372036854775808 ≤ a - b) (h2 : a - b < 9223372036854775808) : N.sub .i64 a b = a - b := wrap_id h1 h2
theorem next_id {k n : Nat} (hk : k < n) (hn : (n : Int) < 9223372036854775808) : N.add .i64 (k : Int) 1 = ((k + 1 : Nat) : Int) := by
  rw [add_id (by omega) (by omega)]; omega
end
end Go.Sh
set_option linter.unusedVariables false
set_option linter.unusedSimpArgs false
namespace Go.Sh
open Go
/-! ## Bounds of data -/
class Data (α : Type) where
  bd : α → Prop
  ok : α → Prop
  le : ∀ x, ok x → bd x
class Flat (α : Type) [Data α] where
  fl : ∀ x : α, Data.bd x → Data.ok x
open Data
instance : Data Int := ⟨fun x => -9223372036854775808 ≤ x ∧ x < 9223372036854775808, fun x => -9223372036854775808 ≤ x ∧ x < 9223372036854775808, fun _ h => h⟩
instance : Data Bool := ⟨fun _ => True, fun _ => True, fun _ h => h⟩
instance : Data ByteArray := ⟨fun s => s.size ≤ 4611686018427387904, fun s => s.size ≤ 4611686018427387904, fun _ h => h⟩
instance {α β : Type} [Data α] [Data β] : Data (α × β) := ⟨fun x => bd x.1 ∧ bd x.2, fun x => ok x.1 ∧ ok x.2, fun x h => ⟨le _ h.1, le _ h.2⟩⟩
instance {α : Type} [Data α] : Data (List α) := ⟨fun xs => xs.length ≤ 4611686018427387904 ∧ ∀ x ∈ xs, bd x, fun xs => xs.length ≤ 1048576 ∧ ∀ x ∈ xs, ok x, fun xs h => ⟨by omega, fun x hx => le x (h.2 x hx)⟩⟩
instance : Flat Int := ⟨fun _ h => h⟩
instance : Flat Bool := ⟨fun _ h => h⟩
instance : Flat ByteArray := ⟨fun _ h => h⟩
instance {α β : Type} [Data α] [Data β] [Flat α] [Flat β] : Flat (α × β) := ⟨fun x h => ⟨Flat.fl _ h.1, Flat.fl _ h.2⟩⟩

section
variable {α : Type} [Data α]
theorem Data.ok.sub {xs ys : List α} (h : ok xs) (hs : ys.Sublist xs) : ok ys := ⟨Nat.le_trans hs.length_le h.1, fun x hx => h.2 x (hs.subset hx)⟩
end
/-! ## Words, once more -/
section
variable {R α β : Type}
theorem neB_d (a b : Bool) : N.neB a b = decide (¬ a = b) := by cases a <;> cases b <;> rfl
theorem not_d (p : Prop) [Decidable p] : N.not (decide p) = decide (¬ p) := by unfold N.not; by_cases h : p <;> simp [h]
/-! ## Copies -/
theorem set_grow {xs ys : List α} {k : Nat} (hk : k < xs.length) (hl : ys.length = xs.length) (h : ys.take k = xs.take k) : (ys.set k xs[k]).take (k + 1) = xs.take (k + 1) := by
  apply List.ext_getElem
  · simp [hl]
  · intro i h1 h2
    simp only [List.length_take, List.length_set] at h1 h2
    simp only [List.getElem_take, List.getElem_set]
    split
    · rename_i e; subst e; rfl
    · have hi : i < k := by omega
      have := congrArg (fun l => l[i]?) h
      simp [List.getElem?_take, hi] at this
      rw [List.getElem?_eq_getElem (by omega), List.getElem?_eq_getElem (by omega)] at this
      simpa using this

/-- an element of a list that is copied -/
def toStep (xs : List α) (d : α) (f : α → Option α) (s1 : Int × List α) : Option ((Int × List α) ⊕ List α) :=
  N.cond (N.lt s1.1 (N.len xs)) (N.ite (0 ≤ s1.1) (N.ite (s1.1 < N.len xs) (N.bind (f (N.rd xs s1.1 d)) fun r1 => N.ite (0 ≤ s1.1) (N.ite (s1.1 < N.len s1.2) (some (.inl (N.add .i64 s1.1 1, N.set s1.2 s1.1 r1))) none) none) none) none) (some (.inr s1.2))

theorem toLoop {xs : List α} {d : α} {f : α → Option α} (hf : ∀ x ∈ xs, f x = some x) (hs : xs.length ≤ 1048576) : loopF (toStep xs d f) (0, N.rep (N.len xs) d) = some xs := by
  have key : ∀ (m k : Nat) (ys : List α), k + m = xs.length → ys.length = xs.length → ys.take k = xs.take k → loopF (toStep xs d f) ((k : Int), ys) = some xs := by
    intro m
    induction m with
    | zero =>
      intro k ys hk hl ht
      refine loopF_inr ?_
      have : ys = xs := by
        rw [show k = xs.length by omega] at ht
        rw [List.take_length, ← hl, List.take_length] at ht
        exact ht
      subst this
      simp only [toStep, lt_d, len_d, cond_dec]
      rw [if_neg (by omega)]
    | succ m ih =>
      intro k ys hk hl ht
      have hlt : k < xs.length := by omega
      rw [loopF_inl (s' := (((k + 1 : Nat) : Int), ys.set k xs[k])) ?_]
      · exact ih (k + 1) _ (by omega) (by simp [hl]) (set_grow hlt hl ht)
      · simp only [toStep, ite_if]; simp only [lt_d, len_d, cond_dec]
        rw [if_pos (by omega), if_pos (by omega), if_pos (by omega), rd_at xs k hlt, hf _ (List.getElem_mem hlt), bind_some', if_pos (by omega), if_pos (by omega), next_id hlt (by omega)]
        rfl
  have := key xs.length 0 (N.rep (N.len xs) d) (by omega) (by simp [N.rep, N.len]) (by simp)
  simpa using this

theorem toS_is {xs : List α} {bytes : Nat} {d : α} {f : α → Option α} (hb : bytes ≤ 10000) (hf : ∀ x ∈ xs, f x = some x) (hs : xs.length ≤ 1048576) :
    N.ite (0 ≤ N.len xs) (N.ite (N.room (N.len xs) bytes) (loopF (toStep xs d f) (0, N.rep (N.len xs) d)) none) none = some xs := by
  rw [nite_pos (by simp [N.len]), nite_pos, toLoop hf hs]
  unfold N.room N.len
  have : (xs.length : Int) * bytes ≤ 1048576 * 10000 := Int.mul_le_mul (by omega) (by omega) (by omega) (by omega)
  omega

/-! ## Comparing -/
def eqStep (xs ys : List α) (d : α) (f : α → α → Option Bool) (s1 : Int) : Option (Int ⊕ Bool) :=
  N.cond (N.lt s1 (N.len xs)) (N.ite (0 ≤ s1) (N.ite (s1 < N.len xs) (N.ite (0 ≤ s1) (N.ite (s1 < N.len ys) (N.bind (f (N.rd xs s1 d) (N.rd ys s1 d)) fun r1 => N.cond (N.not r1) (some (.inr false)) (some (.inl (N.add .i64 s1 1)))) none) none) none) none) (some (.inr true))

theorem eqLoop [DecidableEq α] {xs ys : List α} {d : α} {f : α → α → Option Bool} {r : α → α → Bool} (hf : ∀ x ∈ xs, ∀ y ∈ ys, f x y = some (r x y)) (hs : xs.length ≤ 4611686018427387904) (hl : xs.length = ys.length) :
    loopF (eqStep xs ys d f) 0 = some ((List.zip xs ys).all fun p => r p.1 p.2) := by
  have key : ∀ (m k : Nat), k + m = xs.length → loopF (eqStep xs ys d f) (k : Int) = some ((List.zip (xs.drop k) (ys.drop k)).all fun p => r p.1 p.2) := by
    intro m
    induction m with
    | zero =>
      intro k hk
      rw [loopF_inr (r := true) ?_]
      · rw [List.drop_eq_nil_of_le (by omega)]; simp
      · simp only [eqStep, lt_d, len_d, cond_dec]; rw [if_neg (by omega)]
    | succ m ih =>
      intro k hk
      have hlt : k < xs.length := by omega
      have hlt' : k < ys.length := by omega
      rw [List.drop_eq_getElem_cons hlt, List.drop_eq_getElem_cons hlt']
      have hst : eqStep xs ys d f (k : Int) = N.cond (N.not (r xs[k] ys[k])) (some (.inr false)) (some (.inl ((k + 1 : Nat) : Int))) := by
        simp only [eqStep, ite_if]; simp only [lt_d, len_d, cond_dec]
        rw [if_pos (by omega), if_pos (by omega), if_pos (by omega), if_pos (by omega), if_pos (by omega), rd_at xs k hlt, rd_at ys k hlt', hf _ (List.getElem_mem hlt) _ (List.getElem_mem hlt'), bind_some', next_id hlt (by omega)]
      cases hr : r xs[k] ys[k] with
      | true => rw [loopF_inl (s' := ((k + 1 : Nat) : Int)) (by rw [hst, hr]; rfl), ih (k + 1) (by omega)]; simp only [List.zip_cons_cons, List.all_cons, hr, Bool.true_and]
      | false => rw [loopF_inr (r := false) (by rw [hst, hr]; rfl)]; simp only [List.zip_cons_cons, List.all_cons, hr, Bool.false_and]
  simpa using key xs.length 0 (by omega)

theorem zip_all_eq [DecidableEq α] : ∀ {xs ys : List α}, xs.length = ys.length → ((List.zip xs ys).all fun p => decide (p.1 = p.2)) = decide (xs = ys)
  | [], [], _ => by simp
  | x :: xs, y :: ys, h => by
    simp only [List.zip_cons_cons, List.all_cons, zip_all_eq (xs := xs) (ys := ys) (by simpa using h)]
    by_cases h1 : x = y <;> by_cases h2 : xs = ys <;> simp [h1, h2]
  | [], _ :: _, h => by simp at h
  | _ :: _, [], h => by simp at h

theorem eqS_is [DecidableEq α] {xs ys : List α} {d : α} {f : α → α → Option Bool} (hf : ∀ x ∈ xs, ∀ y, f x y = some (decide (x = y))) (hs : xs.length ≤ 4611686018427387904) :
    N.cond (N.ne (N.len xs) (N.len ys)) (some false) (loopF (eqStep xs ys d f) 0) = some (decide (xs = ys)) := by
  simp only [ne_d, len_d, cond_dec]
  split
  · rename_i h
    have : ¬ xs = ys := fun e => h (by rw [e])
    simp [this]
  · rename_i h
    have hl : xs.length = ys.length := by omega
    rw [eqLoop (r := fun x y => decide (x = y)) (fun x hx y _ => hf x hx y) hs hl, zip_all_eq hl]

/-! ## Sizes -/
def SzOk [Data α] (f : α → Int → Option Int) : Prop := ∀ x left, bd x → 0 ≤ left → left ≤ 1048576 → ∃ r, f x left = some r ∧ (r < 0 ∨ (ok x ∧ 0 ≤ r ∧ r ≤ left))

theorem szFlat_is [Data α] [Flat α] : SzOk (fun (xs : List α) (left : Int) => N.cond (N.lt (N.sub .i64 left (N.len xs)) 0) (some (-1)) (some (N.sub .i64 left (N.len xs)))) := by
  intro xs left hb h0 h1
  have h2 := hb.1
  simp only [len_d, lt_d, cond_dec, sub_id (a := left) (b := (xs.length : Int)) (by omega) (by omega)]
  split
  · exact ⟨-1, rfl, .inl (by omega)⟩
  · exact ⟨_, rfl, .inr ⟨⟨by omega, fun x hx => Flat.fl x (hb.2 x hx)⟩, by omega, by omega⟩⟩

end
end Go.Sh
set_option linter.unusedVariables false
set_option linter.unusedSimpArgs false
set_option synthInstance.maxSize 100000
set_option maxHeartbeats 1000000
namespace Go.Sh
open Go Data
namespace D
theorem laws_toIntS_is (x : List Int) (h : ok x) : laws_toIntS x = some x := by
  unfold laws_toIntS
  exact toS_is (d := 0) (f := fun y => some y) (by decide) (fun y hy => rfl) h.1

theorem laws_eqIntS_is (x y : List Int) (h : ok x) : laws_eqIntS x y = some (decide (x = y)) := by
  have e : laws_eqIntS x y = N.cond (N.ne (N.len x) (N.len y)) (some false) (loopF (eqStep x y 0 fun a b => some (decide (a = b))) 0) := by
    unfold laws_eqIntS
    congr 2 <;> (funext s; simp only [eqStep, bind_some', ne_d, not_d, cond_dec]; try simp only [ite_not])
  rw [e]
  exact eqS_is (fun a ha b => rfl) (by have := h.1; omega)

theorem laws_szIntS_is : SzOk laws_szIntS := szFlat_is

theorem laws_szResource_is : SzOk laws_szResource := by
  intro x left hb h0 h1
  unfold laws_szResource
  obtain ⟨r0, e0, g0⟩ := laws_szIntS_is _ left hb.2.1 h0 h1
  rw [e0, bind_some']
  rcases g0 with g0 | ⟨k0, l0, m0⟩
  · exact ⟨-1, by (try simp only [lt_d, cond_dec]); rw [if_pos g0], .inl (by omega)⟩
  (try simp only [lt_d, cond_dec]); rw [if_neg (by omega)]
  exact ⟨_, rfl, .inr ⟨⟨Flat.fl _ hb.1, k0, Flat.fl _ hb.2.2⟩, by omega, by omega⟩⟩

theorem laws_szCapture_is : SzOk laws_szCapture := by
  intro x left hb h0 h1
  unfold laws_szCapture
  obtain ⟨r0, e0, g0⟩ := laws_szResource_is _ left hb.2.2 h0 h1
  rw [e0, bind_some']
  rcases g0 with g0 | ⟨k0, l0, m0⟩
  · exact ⟨-1, by (try simp only [lt_d, cond_dec]); rw [if_pos g0], .inl (by omega)⟩
  (try simp only [lt_d, cond_dec]); rw [if_neg (by omega)]
  exact ⟨_, rfl, .inr ⟨⟨Flat.fl _ hb.1, Flat.fl _ hb.2.1, k0⟩, by omega, by omega⟩⟩

theorem laws_toAddress_is (x : Address) (h : ok x) : laws_toAddress x = some x := rfl

theorem laws_toResource_is (x : Resource) (h : ok x) : laws_toResource x = some x := by
  unfold laws_toResource
  rw [laws_toIntS_is _ h.2.1, bind_some', laws_toAddress_is _ h.2.2, bind_some']

theorem laws_toCapture_is (x : Capture) (h : ok x) : laws_toCapture x = some x := by
  unfold laws_toCapture
  rw [laws_toAddress_is _ h.1, bind_some', laws_toResource_is _ h.2.2, bind_some']

theorem laws_eqAddress_is (x y : Address) (h : ok x) : laws_eqAddress x y = some (decide (x = y)) := by
  obtain ⟨a0, a1, a2⟩ := x; obtain ⟨b0, b1, b2⟩ := y
  unfold laws_eqAddress
  simp only [ne_d, neB_d, not_d, cond_dec, Prod.mk.injEq]
  by_cases e0 : a0 = b0 <;> by_cases e1 : a1 = b1 <;> by_cases e2 : a2 = b2 <;> simp [e0, e1, e2]

theorem laws_eqResource_is (x y : Resource) (h : ok x) : laws_eqResource x y = some (decide (x = y)) := by
  obtain ⟨a0, a1, a2⟩ := x; obtain ⟨b0, b1, b2⟩ := y
  unfold laws_eqResource
  simp only [laws_eqIntS_is _ _ h.2.1, laws_eqAddress_is _ _ h.2.2, bind_some']
  simp only [ne_d, neB_d, not_d, cond_dec, Prod.mk.injEq]
  by_cases e0 : a0 = b0 <;> by_cases e1 : a1 = b1 <;> by_cases e2 : a2 = b2 <;> simp [e0, e1, e2]

theorem laws_eqCapture_is (x y : Capture) (h : ok x) : laws_eqCapture x y = some (decide (x = y)) := by
  obtain ⟨a0, a1, a2⟩ := x; obtain ⟨b0, b1, b2⟩ := y
  unfold laws_eqCapture
  simp only [laws_eqAddress_is _ _ h.1, laws_eqResource_is _ _ h.2.2, bind_some']
  simp only [ne_d, neB_d, not_d, cond_dec, Prod.mk.injEq]
  by_cases e0 : a0 = b0 <;> by_cases e1 : a1 = b1 <;> by_cases e2 : a2 = b2 <;> simp [e0, e1, e2]

end D
end Go.Sh
set_option linter.unusedVariables false
set_option linter.unusedSimpArgs false
set_option synthInstance.maxSize 100000
set_option maxHeartbeats 1000000
namespace Go.Sh
open Go Data
namespace D
theorem spec_l1In_is (a b c : Int) : spec_l1In a b c = some (decide (b ≤ a ∧ a ≤ c)) := by
  unfold spec_l1In
  simp only [ge_d, le_d, cond_dec]
  by_cases h1 : b ≤ a <;> by_cases h2 : a ≤ c <;> simp [h1, h2]
theorem impl_InRange_is (a b c : Int) : impl_InRange a b c = some (decide (b ≤ a ∧ a ≤ c)) := by
  unfold impl_InRange
  simp only [ge_d, le_d, cond_dec]
  by_cases h1 : b ≤ a <;> by_cases h2 : a ≤ c <;> simp [h1, h2]
end D
end Go.Sh
set_option linter.unusedVariables false
set_option linter.unusedSimpArgs false
set_option synthInstance.maxSize 100000
set_option maxHeartbeats 1000000
namespace Go.Sh
open Go Data
namespace D
/-! ## Counts -/
end D
end Go.Sh
set_option linter.unusedVariables false
set_option linter.unusedSimpArgs false
set_option synthInstance.maxSize 100000
set_option maxHeartbeats 1000000
namespace Go.Sh
open Go Data
namespace D
end D
end Go.Sh
set_option linter.unusedVariables false
set_option linter.unusedSimpArgs false
set_option synthInstance.maxSize 100000
set_option maxHeartbeats 1000000
namespace Go.Sh
open Go Data
namespace D
end D
end Go.Sh
set_option linter.unusedVariables false
set_option linter.unusedSimpArgs false
set_option synthInstance.maxSize 100000
set_option maxHeartbeats 1000000
namespace Go.Sh
open Go Data
namespace D
/-! ### Exclusions -/
def exclP (x : Exclusion) : Prop := (1 ≤ x.1 ∧ x.1 ≤ 9) ∧ (-1 ≤ x.2.1 ∧ x.2.1 ≤ 99) ∧ 0 ≤ x.2.2.1 ∧ x.2.2.1 ≤ x.2.2.2.1 ∧ x.2.2.2.1 ≤ 2000 ∧ 0 ≤ x.2.2.2.2 ∧ x.2.2.2.2 ≤ 2000
instance (x : Exclusion) : Decidable (exclP x) := by unfold exclP; infer_instance
theorem spec_IsExclusion_is (x : Exclusion) : spec_IsExclusion x = some (decide (exclP x)) := by
  obtain ⟨a, b, c, d, e⟩ := x
  simp only [spec_IsExclusion, exclP, spec_l1In_is, bind_some', cond_dec]
  by_cases h1 : 1 ≤ a ∧ a ≤ 9 <;> by_cases h2 : -1 ≤ b ∧ b ≤ 99 <;> by_cases h3 : 0 ≤ c ∧ c ≤ 2000 <;> by_cases h4 : c ≤ d ∧ d ≤ 2000 <;> by_cases h5 : 0 ≤ e ∧ e ≤ 2000 <;> simp only [h1, h2, h3, h4, h5, if_true, if_false, decide_true, decide_false, true_and, false_and, and_true, and_false, and_self] <;> congr 1 <;> simp <;> omega
theorem impl_IsExclusion_is (x : Exclusion) : impl_IsExclusion x = some (decide (exclP x)) := by
  obtain ⟨a, b, c, d, e⟩ := x
  simp only [impl_IsExclusion, exclP, impl_InRange_is, bind_some', cond_dec, le_d]
  by_cases h1 : 1 ≤ a ∧ a ≤ 9 <;> by_cases h2 : -1 ≤ b ∧ b ≤ 99 <;> by_cases h3 : 0 ≤ c ∧ c ≤ d <;> by_cases h4 : d ≤ 2000 <;> by_cases h5 : 0 ≤ e ∧ e ≤ 2000 <;> simp only [h1, h2, h3, h4, h5, if_true, if_false, decide_true, decide_false, true_and, false_and, and_true, and_false, and_self] <;> congr 1 <;> simp <;> omega

/-- what an exclusion hides from some tick on -/
def hidesP (x : Exclusion) (c : Capture) : Bool := decide (exclP x) && decide (x.1 = c.1.1) && (decide (x.2.1 = -1) || decide (x.2.1 = c.1.2.1)) && decide (x.2.2.1 ≤ c.2.1 ∧ c.2.1 ≤ x.2.2.2.1)
theorem spec_l25Meets_is (x : Exclusion) (c : Capture) : spec_l25Meets x c = some (hidesP x c) := by
  unfold spec_l25Meets hidesP
  simp only [spec_IsExclusion_is, spec_l1In_is, bind_some', eq_d, cond_dec]
  by_cases h1 : exclP x <;> by_cases h2 : x.1 = c.1.1 <;> by_cases h3 : x.2.1 = -1 <;> by_cases h4 : x.2.1 = c.1.2.1 <;> simp [h1, h2, h3, h4]
theorem impl_Exclusion_hides_is (x : Exclusion) (c : Capture) : impl_Exclusion_hides x c = some (hidesP x c) := by
  unfold impl_Exclusion_hides hidesP
  simp only [impl_IsExclusion_is, impl_InRange_is, bind_some', eq_d, cond_dec]
  have e2 : (c.1.1 = x.1) = (x.1 = c.1.1) := propext eq_comm
  have e4 : (c.1.2.1 = x.2.1) = (x.2.1 = c.1.2.1) := propext eq_comm
  simp only [e2, e4]
  by_cases h1 : exclP x <;> by_cases h2 : x.1 = c.1.1 <;> by_cases h3 : x.2.1 = -1 <;> by_cases h4 : x.2.1 = c.1.2.1 <;> simp [h1, h2, h3, h4]
def hiddenByP (x : Exclusion) (c : Capture) (now : Int) : Bool := decide (x.2.2.2.2 ≤ now) && hidesP x c
theorem spec_IsHiddenBy_is (x : Exclusion) (c : Capture) (now : Int) : spec_IsHiddenBy x c now = some (hiddenByP x c now) := by
  unfold spec_IsHiddenBy hiddenByP
  rw [spec_l25Meets_is, bind_some', ge_d]
  cases hidesP x c <;> simp
theorem impl_IsHiddenBy_is (x : Exclusion) (c : Capture) (now : Int) : impl_IsHiddenBy x c now = some (hiddenByP x c now) := by
  unfold impl_IsHiddenBy hiddenByP
  rw [impl_Exclusion_hides_is, bind_some', ge_d, cond_dec]
  by_cases h : x.2.2.2.2 ≤ now <;> simp [h]
theorem FnExactIsHiddenBy_true (x : Exclusion) (c : Capture) (now : Int) (_ : bd x) (hc : bd c) (_ : bd now) : laws_FnExactIsHiddenBy x c now = some true := by
  unfold laws_FnExactIsHiddenBy
  obtain ⟨s, e, hs⟩ := laws_szCapture_is c 1048576 hc (by omega) (by omega)
  rw [e, bind_some', lt_d, cond_dec]
  rcases hs with hs | ⟨hk, h0, h1⟩
  · rw [if_pos hs]
  · rw [if_neg (by omega)]
    simp only [show ∀ x, laws_toExclusion x = some x from fun _ => rfl, laws_toCapture_is _ hk, bind_some', spec_IsHiddenBy_is, impl_IsHiddenBy_is, laws_eqCapture_is _ _ hk, ne_d, neB_d, not_d, cond_dec]
    simp

end D
end Go.Sh
set_option linter.unusedVariables false
set_option linter.unusedSimpArgs false
set_option synthInstance.maxSize 100000
set_option maxHeartbeats 1000000
namespace Go.Sh
open Go Data
namespace D
end D
end Go.Sh
set_option linter.unusedVariables false
set_option linter.unusedSimpArgs false
set_option synthInstance.maxSize 100000
set_option maxHeartbeats 1000000
namespace Go.Sh
open Go Data
namespace D
end D
end Go.Sh
set_option linter.unusedVariables false
set_option linter.unusedSimpArgs false
set_option synthInstance.maxSize 100000
set_option maxHeartbeats 1000000
namespace Go.Sh
open Go Data
namespace D
end D
end Go.Sh
set_option linter.unusedVariables false
set_option linter.unusedSimpArgs false
set_option synthInstance.maxSize 100000
set_option maxHeartbeats 1000000
namespace Go.Sh
open Go Data
namespace D
end D
end Go.Sh
