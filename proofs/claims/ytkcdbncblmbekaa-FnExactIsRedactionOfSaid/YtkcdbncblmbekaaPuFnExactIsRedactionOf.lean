/- The native forms of the functions that FnExactIsRedactionOf reaches, and their pure laws: FnExactIsRedactionOf is true for every input of bounded parts. No condition beyond the bounds that every input keeps. -/
import Derived.Test.YtkcdbncblmbekaaSh8
set_option linter.unusedVariables false
set_option maxRecDepth 100000
set_option maxHeartbeats 4000000
namespace Go.Sh
open Go
namespace N
def nostr : ByteArray := ByteArray.empty
def lit (l : List UInt8) : ByteArray := ⟨l.toArray⟩
end N
namespace D
abbrev Leaf : Type := Int × Int × Bool × Int
noncomputable def spec_l1In (x0 : Int) (x1 : Int) (x2 : Int) : Option (Bool) :=
  N.cond (N.ge x0 x1)
    (some (N.le x0 x2))
    (some false)

noncomputable def impl_InRange (x0 : Int) (x1 : Int) (x2 : Int) : Option (Bool) :=
  N.cond (N.le x1 x0)
    (some (N.le x0 x2))
    (some false)

noncomputable def spec_Mod (x0 : Int) (x1 : Int) : Option (Int) :=
  N.bind (spec_l1In x1 1 1000000000000) fun r1 =>
    N.cond (N.not r1)
      (some 0)
      (
        N.ite (x1 = 0)
          none
          (
            N.ite (x1 = 0)
              none
              (some (N.rem (N.add .i64 (N.rem x0 x1) x1) x1))))

noncomputable def spec_Hash (x0 : List Int) : Option (Int) :=
  loopF (fun (s1 : Int × Int) =>
      N.cond (N.lt s1.2 (N.len x0))
        (
          N.ite (0 ≤ s1.2)
            (
              N.ite (s1.2 < N.len x0)
                (
                  N.bind (spec_Mod (N.rd x0 s1.2 0) 2147483647) fun r1 =>
                    some (.inl (N.rem (N.add .i64 (N.add .i64 (N.mul .i64 s1.1 1000003) r1) 13) 2147483647, N.add .i64 s1.2 1)))
                none)
            none)
        (some (.inr s1.1)))
    (11, 0)

noncomputable def impl_Mod (x0 : Int) (x1 : Int) : Option (Int) :=
  N.bind (impl_InRange x1 1 1000000000000) fun r1 =>
    N.cond (N.not r1)
      (some 0)
      (
        N.ite (x1 = 0)
          none
          (
            N.ite (x1 = 0)
              none
              (some (N.rem (N.add .i64 (N.rem x0 x1) x1) x1))))

noncomputable def impl_Hash (x0 : List Int) : Option (Int) :=
  loopF (fun (s1 : Int × Int) =>
      N.cond (N.lt s1.2 (N.len x0))
        (
          N.ite (0 ≤ s1.2)
            (
              N.ite (s1.2 < N.len x0)
                (
                  N.bind (impl_Mod (N.rd x0 s1.2 0) 2147483647) fun r1 =>
                    some (.inl (N.rem (N.add .i64 (N.add .i64 (N.mul .i64 s1.1 1000003) r1) 13) 2147483647, N.add .i64 s1.2 1)))
                none)
            none)
        (some (.inr s1.1)))
    (11, 0)

noncomputable def laws_szLeafS (x0 : List Leaf) (x1 : Int) : Option (Int) :=
  N.cond (N.lt (N.sub .i64 x1 (N.len x0)) 0)
    (some (-1))
    (some (N.sub .i64 x1 (N.len x0)))

noncomputable def laws_toLeaf (x0 : Leaf) : Option (Leaf) :=
  some x0

noncomputable def laws_toLeafS (x0 : List Leaf) : Option (List Leaf) :=
  N.ite (0 ≤ N.len x0)
    (
      N.ite (N.room (N.len x0) 32)
        (
          loopF (fun (s1 : Int × List Leaf) =>
              N.cond (N.lt s1.1 (N.len x0))
                (
                  N.ite (0 ≤ s1.1)
                    (
                      N.ite (s1.1 < N.len x0)
                        (
                          N.bind (laws_toLeaf (N.rd x0 s1.1 (0, 0, false, 0))) fun r1 =>
                            N.ite (0 ≤ s1.1)
                              (
                                N.ite (s1.1 < N.len s1.2)
                                  (some (.inl (N.add .i64 s1.1 1, N.set s1.2 s1.1 r1)))
                                  none)
                              none)
                        none)
                    none)
                (some (.inr s1.2)))
            (0, N.rep (N.len x0) (0, 0, false, 0)))
        none)
    none

noncomputable def spec_AreLeaves (x0 : List Leaf) : Option (Bool) :=
  loopF (fun (s1 : Int) =>
      N.cond (N.lt s1 (N.len x0))
        (
          N.ite (0 ≤ s1)
            (
              N.ite (s1 < N.len x0)
                (
                  N.cond ((N.rd x0 s1 (0, 0, false, 0)).2.2.1)
                    (
                      N.cond (N.ne ((N.rd x0 s1 (0, 0, false, 0)).1) 0)
                        (some (.inr false))
                        (
                          N.cond (N.ne ((N.rd x0 s1 (0, 0, false, 0)).2.1) 0)
                            (some (.inr false))
                            (
                              N.cond (N.not ((N.rd x0 s1 (0, 0, false, 0)).2.2.1))
                                (
                                  N.bind (spec_l1In ((N.rd x0 s1 (0, 0, false, 0)).1) 0 255) fun r1 =>
                                    N.cond (N.not r1)
                                      (some (.inr false))
                                      (
                                        N.bind (spec_Hash [(N.rd x0 s1 (0, 0, false, 0)).1, (N.rd x0 s1 (0, 0, false, 0)).2.1]) fun r2 =>
                                          N.cond (N.ne ((N.rd x0 s1 (0, 0, false, 0)).2.2.2) r2)
                                            (some (.inr false))
                                            (some (.inl (N.add .i64 s1 1)))))
                                (some (.inl (N.add .i64 s1 1))))))
                    (
                      N.cond (N.not ((N.rd x0 s1 (0, 0, false, 0)).2.2.1))
                        (
                          N.bind (spec_l1In ((N.rd x0 s1 (0, 0, false, 0)).1) 0 255) fun r3 =>
                            N.cond (N.not r3)
                              (some (.inr false))
                              (
                                N.bind (spec_Hash [(N.rd x0 s1 (0, 0, false, 0)).1, (N.rd x0 s1 (0, 0, false, 0)).2.1]) fun r4 =>
                                  N.cond (N.ne ((N.rd x0 s1 (0, 0, false, 0)).2.2.2) r4)
                                    (some (.inr false))
                                    (some (.inl (N.add .i64 s1 1)))))
                        (some (.inl (N.add .i64 s1 1)))))
                none)
            none)
        (some (.inr (N.le (N.len x0) 100))))
    0

noncomputable def impl_AreLeaves_1 (x0 : Leaf) : Option (Bool) :=
  N.cond x0.2.2.1
    (
      N.cond (N.ne x0.1 0)
        (some true)
        (some (N.ne x0.2.1 0)))
    (
      N.bind (impl_InRange x0.1 0 255) fun r1 =>
        N.cond (N.not r1)
          (some true)
          (
            N.bind (impl_Hash [x0.1, x0.2.1]) fun r2 =>
              some (N.ne x0.2.2.2 r2)))

noncomputable def slices_IndexFunc_Leaf_impl_AreLeaves_1 (x0 : List Leaf) : Option (Int) :=
  loopF (fun (s1 : Int) =>
      N.cond (N.lt s1 (N.len x0))
        (
          N.ite (0 ≤ s1)
            (
              N.ite (s1 < N.len x0)
                (
                  N.bind (impl_AreLeaves_1 (N.rd x0 s1 (0, 0, false, 0))) fun r1 =>
                    N.cond r1
                      (some (.inr s1))
                      (some (.inl (N.add .i64 s1 1))))
                none)
            none)
        (some (.inr (-1))))
    0

noncomputable def slices_ContainsFunc_Leaf_impl_AreLeaves_1 (x0 : List Leaf) : Option (Bool) :=
  N.bind (slices_IndexFunc_Leaf_impl_AreLeaves_1 x0) fun r1 =>
    some (N.ge r1 0)

noncomputable def impl_AreLeaves (x0 : List Leaf) : Option (Bool) :=
  N.cond (N.le (N.len x0) 100)
    (
      N.bind (slices_ContainsFunc_Leaf_impl_AreLeaves_1 x0) fun r1 =>
        some (N.not r1))
    (some false)

noncomputable def laws_eqLeaf (x0 : Leaf) (x1 : Leaf) : Option (Bool) :=
  N.cond (N.ne x0.1 x1.1)
    (some false)
    (
      N.cond (N.ne x0.2.1 x1.2.1)
        (some false)
        (
          N.cond (N.neB x0.2.2.1 x1.2.2.1)
            (some false)
            (
              N.cond (N.ne x0.2.2.2 x1.2.2.2)
                (some false)
                (some true))))

noncomputable def laws_eqLeafS (x0 : List Leaf) (x1 : List Leaf) : Option (Bool) :=
  N.cond (N.ne (N.len x0) (N.len x1))
    (some false)
    (
      loopF (fun (s1 : Int) =>
          N.cond (N.lt s1 (N.len x0))
            (
              N.ite (0 ≤ s1)
                (
                  N.ite (s1 < N.len x0)
                    (
                      N.ite (0 ≤ s1)
                        (
                          N.ite (s1 < N.len x1)
                            (
                              N.bind (laws_eqLeaf (N.rd x0 s1 (0, 0, false, 0)) (N.rd x1 s1 (0, 0, false, 0))) fun r1 =>
                                N.cond (N.not r1)
                                  (some (.inr false))
                                  (some (.inl (N.add .i64 s1 1))))
                            none)
                        none)
                    none)
                none)
            (some (.inr true)))
        0)

noncomputable def spec_l22Seals (x0 : List Leaf) : Option (List Int) :=
  loopF (fun (s1 : List Int × Int) =>
      N.cond (N.lt s1.2 (N.len x0))
        (
          N.ite (0 ≤ s1.2)
            (
              N.ite (s1.2 < N.len x0)
                (
                  N.ite (N.fits s1.1 [(N.rd x0 s1.2 (0, 0, false, 0)).2.2.2] 8)
                    (some (.inl (N.app s1.1 [(N.rd x0 s1.2 (0, 0, false, 0)).2.2.2], N.add .i64 s1.2 1)))
                    none)
                none)
            none)
        (some (.inr s1.1)))
    ([], 0)

noncomputable def spec_EqualInts (x0 : List Int) (x1 : List Int) : Option (Bool) :=
  N.cond (N.ne (N.len x0) (N.len x1))
    (some false)
    (
      loopF (fun (s1 : Int) =>
          N.cond (N.lt s1 (N.len x0))
            (
              N.ite (0 ≤ s1)
                (
                  N.ite (s1 < N.len x0)
                    (
                      N.ite (0 ≤ s1)
                        (
                          N.ite (s1 < N.len x1)
                            (
                              N.cond (N.ne (N.rd x0 s1 0) (N.rd x1 s1 0))
                                (some (.inr false))
                                (some (.inl (N.add .i64 s1 1))))
                            none)
                        none)
                    none)
                none)
            (some (.inr true)))
        0)

noncomputable def slices_Equal_int (x0 : List Int) (x1 : List Int) : Option (Bool) :=
  N.cond (N.ne (N.len x0) (N.len x1))
    (some false)
    (
      loopF (fun (s1 : Int) =>
          N.cond (N.lt s1 (N.len x0))
            (
              N.ite (0 ≤ s1)
                (
                  N.ite (s1 < N.len x0)
                    (
                      N.ite (0 ≤ s1)
                        (
                          N.ite (s1 < N.len x1)
                            (
                              N.cond (N.ne (N.rd x0 s1 0) (N.rd x1 s1 0))
                                (some (.inr false))
                                (some (.inl (N.add .i64 s1 1))))
                            none)
                        none)
                    none)
                none)
            (some (.inr true)))
        0)

noncomputable def spec_IsRedactionOf (x0 : List Leaf) (x1 : List Leaf) : Option (Bool) :=
  N.bind (spec_AreLeaves x0) fun r1 =>
    N.cond (N.not r1)
      (some false)
      (
        N.bind (spec_AreLeaves x1) fun r2 =>
          N.cond (N.not r2)
            (some false)
            (
              N.bind (spec_l22Seals x0) fun r3 =>
                N.bind (spec_l22Seals x1) fun r4 =>
                  N.bind (spec_EqualInts r3 r4) fun r5 =>
                    N.cond (N.not r5)
                      (some false)
                      (
                        loopF (fun (s1 : Int) =>
                            N.cond (N.lt s1 (N.len x0))
                              (
                                N.ite (0 ≤ s1)
                                  (
                                    N.ite (s1 < N.len x0)
                                      (
                                        N.cond (N.not ((N.rd x0 s1 (0, 0, false, 0)).2.2.1))
                                          (
                                            N.ite (0 ≤ s1)
                                              (
                                                N.ite (s1 < N.len x1)
                                                  (
                                                    N.cond ((N.rd x1 s1 (0, 0, false, 0)).2.2.1)
                                                      (some (.inr false))
                                                      (some (.inl (N.add .i64 s1 1))))
                                                  none)
                                              none)
                                          (some (.inl (N.add .i64 s1 1))))
                                      none)
                                  none)
                              (some (.inr true)))
                          0)))

noncomputable def impl_IsRedactionOf_1 (x0 : Leaf) (x1 : Leaf) : Option (Bool) :=
  N.cond (N.eq x0.2.2.2 x1.2.2.2)
    (
      N.cond x0.2.2.1
        (some true)
        (some (N.not x1.2.2.1)))
    (some false)

noncomputable def slices_EqualFunc_Leaf_impl_IsRedactionOf_1 (x0 : List Leaf) (x1 : List Leaf) : Option (Bool) :=
  N.cond (N.ne (N.len x0) (N.len x1))
    (some false)
    (
      loopF (fun (s1 : Int) =>
          N.cond (N.lt s1 (N.len x0))
            (
              N.ite (0 ≤ s1)
                (
                  N.ite (s1 < N.len x0)
                    (
                      N.ite (0 ≤ s1)
                        (
                          N.ite (s1 < N.len x1)
                            (
                              N.bind (impl_IsRedactionOf_1 (N.rd x0 s1 (0, 0, false, 0)) (N.rd x1 s1 (0, 0, false, 0))) fun r1 =>
                                N.cond (N.not r1)
                                  (some (.inr false))
                                  (some (.inl (N.add .i64 s1 1))))
                            none)
                        none)
                    none)
                none)
            (some (.inr true)))
        0)

noncomputable def impl_IsRedactionOf (x0 : List Leaf) (x1 : List Leaf) : Option (Bool) :=
  N.bind (impl_AreLeaves x0) fun r1 =>
    N.cond r1
      (
        N.bind (impl_AreLeaves x1) fun r2 =>
          N.cond r2
            (
              N.bind (slices_EqualFunc_Leaf_impl_IsRedactionOf_1 x0 x1) fun r3 =>
                some r3)
            (some false))
      (some false)

noncomputable def laws_FnExactIsRedactionOf (x0 : List Leaf) (x1 : List Leaf) : Option (Bool) :=
  N.bind (laws_szLeafS x0 1048576) fun r1 =>
    N.cond (N.lt r1 0)
      (some true)
      (
        N.bind (laws_szLeafS x1 r1) fun r2 =>
          N.cond (N.lt r2 0)
            (some true)
            (
              N.bind (laws_toLeafS x0) fun r3 =>
                N.bind (laws_toLeafS x1) fun r4 =>
                  N.bind (spec_IsRedactionOf r3 r4) fun r5 =>
                    N.bind (laws_toLeafS x0) fun r6 =>
                      N.bind (laws_toLeafS x1) fun r7 =>
                        N.bind (impl_IsRedactionOf r6 r7) fun r8 =>
                          N.cond (N.neB r8 r5)
                            (some false)
                            (
                              N.bind (laws_toLeafS x0) fun r9 =>
                                N.bind (laws_eqLeafS r6 r9) fun r10 =>
                                  N.cond (N.not r10)
                                    (some false)
                                    (
                                      N.bind (laws_toLeafS x1) fun r11 =>
                                        N.bind (laws_eqLeafS r7 r11) fun r12 =>
                                          N.cond (N.not r12)
                                            (some false)
                                            (some true)))))

end D
end Go.Sh
set_option linter.unusedVariables false
set_option linter.unusedSimpArgs false
namespace Go.Sh
open Go
/-! ## Loops -/
theorem loopN_det {S R : Type} {step : S → Option (S ⊕ R)} : ∀ {n m : Nat} {s : S} {a b : R}, loopN step n s = some a → loopN step m s = some b → a = b
  | 0, _, _, _, _, h, _ => by simp [loopN] at h
  | _ + 1, 0, _, _, _, _, h => by simp [loopN] at h
  | n + 1, m + 1, s, a, b, h1, h2 => by
    simp only [loopN] at h1 h2
    split at h1
    · cases h1
    · rename_i s' hs; rw [hs] at h2; exact loopN_det h1 h2
    · rename_i r hr; rw [hr] at h2; simp at h1 h2; rw [← h1, ← h2]

theorem loopF_of {S R : Type} {step : S → Option (S ⊕ R)} {s : S} {n : Nat} {r : R} (h : loopN step n s = some r) : loopF step s = some r := by
  have hx : ∃ n r, loopN step n s = some r := ⟨n, r, h⟩
  unfold loopF
  rw [dif_pos hx]
  obtain ⟨m, hm⟩ := Classical.choose_spec hx |> fun h => (⟨_, Classical.choose_spec h⟩ : ∃ v, loopN step (Classical.choose hx) s = some v)
  have := Classical.choose_spec (Classical.choose_spec hx)
  rw [loopN_det this h]

theorem loopF_inr {S R : Type} {step : S → Option (S ⊕ R)} {s : S} {r : R} (h : step s = some (.inr r)) : loopF step s = some r :=
  loopF_of (n := 1) (by simp [loopN, h])

theorem loopF_inl {S R : Type} {step : S → Option (S ⊕ R)} {s s' : S} (h : step s = some (.inl s')) : loopF step s = loopF step s' := by
  by_cases hx : ∃ n r, loopN step n s' = some r
  · obtain ⟨n, r, hn⟩ := hx
    rw [loopF_of hn, loopF_of (n := n + 1) (r := r) (by simp [loopN, h, hn])]
  · have hy : ¬ ∃ n r, loopN step n s = some r := by
      rintro ⟨n, r, hn⟩
      cases n with
      | zero => simp [loopN] at hn
      | succ n => simp only [loopN, h] at hn; exact hx ⟨n, r, hn⟩
    unfold loopF
    rw [dif_neg hx, dif_neg hy]

/-- counting up to n -/
theorem loop_upto {σ S R : Type} {step : S → Option (S ⊕ R)} (n : Nat) (emb : Nat → σ → S) (st : Nat → σ) (r : R)
    (hstep : ∀ k < n, step (emb k (st k)) = some (.inl (emb (k + 1) (st (k + 1))))) (hend : step (emb n (st n)) = some (.inr r)) : loopF step (emb 0 (st 0)) = some r := by
  have key : ∀ (m k : Nat), k + m = n → loopF step (emb k (st k)) = some r := by
    intro m
    induction m with
    | zero => intro k hk; have : k = n := by omega
              subst this; exact loopF_inr hend
    | succ m ih => intro k hk; rw [loopF_inl (hstep k (by omega))]; exact ih (k + 1) (by omega)
  exact key n 0 (by omega)

/-! ## Words -/
section
variable {R α β : Type}
@[simp] theorem bind_some' (x : β) (f : β → Option R) : N.bind (some x) f = f x := rfl
@[simp] theorem cond_true (x y : Option R) : N.cond true x y = x := rfl
@[simp] theorem cond_false (x y : Option R) : N.cond false x y = y := rfl
theorem cond_if (b : Bool) (x y : Option R) : N.cond b x y = if b = true then x else y := rfl
theorem cond_dec (p : Prop) [Decidable p] (x y : Option R) : N.cond (decide p) x y = if p then x else y := by unfold N.cond; by_cases h : p <;> simp [h]
theorem ite_if (c : Prop) [Decidable c] (x y : Option R) : N.ite c x y = if c then x else y := rfl
theorem nite_pos {c : Prop} [Decidable c] (h : c) (x y : Option R) : N.ite c x y = x := if_pos h
theorem nite_neg {c : Prop} [Decidable c] (h : ¬ c) (x y : Option R) : N.ite c x y = y := if_neg h
theorem lt_d (a b : Int) : N.lt a b = decide (a < b) := rfl
theorem le_d (a b : Int) : N.le a b = decide (a ≤ b) := rfl
theorem ge_d (a b : Int) : N.ge a b = decide (b ≤ a) := rfl
theorem eq_d (a b : Int) : N.eq a b = decide (a = b) := rfl
theorem ne_d (a b : Int) : N.ne a b = decide (¬ a = b) := by
  unfold N.ne; by_cases h : a = b <;> simp [h]
theorem len_d (xs : List α) : N.len xs = (xs.length : Int) := by simp [N.len]
theorem rd_at (xs : List α) (k : Nat) (hk : k < xs.length) (d : α) : N.rd xs (k : Int) d = xs[k] := by
  simp [N.rd, List.getD, hk]
theorem wrap_id {n : Int} (h1 : -9223372036854775808 ≤ n) (h2 : n < 9223372036854775808) : IntKind.i64.wrap n = n := by
  have e1 : ((2 : Int) ^ IntKind.i64.bits) = 18446744073709551616 := by decide
  have e2 : ((2 : Int) ^ (IntKind.i64.bits - 1)) = 9223372036854775808 := by decide
  have e3 : IntKind.i64.signed = true := rfl
  unfold IntKind.wrap
  rw [e1, e2, e3]
  simp only [Bool.true_and, decide_eq_true_eq]
  split <;> omega
theorem add_id {a b : Int} (h1 : -9223372036854775808 ≤ a + b) (h2 : a + b < 9223372036854775808) : N.add .i64 a b = a + b := wrap_id h1 h2
theorem sub_id {a b : Int} (h1 : -9223372036854775808 ≤ a - b) (h2 : a - b < 9223372036854775808) : N.sub .i64 a b = a - b := wrap_id h1 h2
theorem mul_id {a b : Int} (h1 : -9223372036854775808 ≤ a * b) (h2 : a * b < 9223372036854775808) : N.mul .i64 a b = a * b := wrap_id h1 h2
theorem next_id {k n : Nat} (hk : k < n) (hn : (n : Int) < 9223372036854775808) : N.add .i64 (k : Int) 1 = ((k + 1 : Nat) : Int) := by
  rw [add_id (by omega) (by omega)]; omega
end
end Go.Sh
set_option linter.unusedVariables false
set_option linter.unusedSimpArgs false
namespace Go.Sh
open Go
/-! ## Bounds of data -/
class Data (α : Type) where
  bd : α → Prop
  ok : α → Prop
  le : ∀ x, ok x → bd x
class Flat (α : Type) [Data α] where
  fl : ∀ x : α, Data.bd x → Data.ok x
open Data
instance : Data Int := ⟨fun x => -9223372036854775808 ≤ x ∧ x < 9223372036854775808, fun x => -9223372036854775808 ≤ x ∧ x < 9223372036854775808, fun _ h => h⟩
instance : Data Bool := ⟨fun _ => True, fun _ => True, fun _ h => h⟩
instance : Data ByteArray := ⟨fun s => s.size ≤ 4611686018427387904, fun s => s.size ≤ 4611686018427387904, fun _ h => h⟩
instance {α β : Type} [Data α] [Data β] : Data (α × β) := ⟨fun x => bd x.1 ∧ bd x.2, fun x => ok x.1 ∧ ok x.2, fun x h => ⟨le _ h.1, le _ h.2⟩⟩
instance {α : Type} [Data α] : Data (List α) := ⟨fun xs => xs.length ≤ 4611686018427387904 ∧ ∀ x ∈ xs, bd x, fun xs => xs.length ≤ 1048576 ∧ ∀ x ∈ xs, ok x, fun xs h => ⟨by omega, fun x hx => le x (h.2 x hx)⟩⟩
instance : Flat Int := ⟨fun _ h => h⟩
instance : Flat Bool := ⟨fun _ h => h⟩
instance : Flat ByteArray := ⟨fun _ h => h⟩
instance {α β : Type} [Data α] [Data β] [Flat α] [Flat β] : Flat (α × β) := ⟨fun x h => ⟨Flat.fl _ h.1, Flat.fl _ h.2⟩⟩

section
variable {α : Type} [Data α]
theorem Data.ok.sub {xs ys : List α} (h : ok xs) (hs : ys.Sublist xs) : ok ys := ⟨Nat.le_trans hs.length_le h.1, fun x hx => h.2 x (hs.subset hx)⟩
end
/-! ## Words, once more -/
section
variable {R α β : Type}
theorem neB_d (a b : Bool) : N.neB a b = decide (¬ a = b) := by cases a <;> cases b <;> rfl
theorem not_d (p : Prop) [Decidable p] : N.not (decide p) = decide (¬ p) := by unfold N.not; by_cases h : p <;> simp [h]
theorem not_b (b : Bool) : N.not b = !b := rfl
theorem cond_not (b : Bool) (x y : Option R) : N.cond (N.not b) x y = N.cond b y x := by cases b <;> rfl

/-! ## Copies -/
theorem set_grow {xs ys : List α} {k : Nat} (hk : k < xs.length) (hl : ys.length = xs.length) (h : ys.take k = xs.take k) : (ys.set k xs[k]).take (k + 1) = xs.take (k + 1) := by
  apply List.ext_getElem
  · simp [hl]
  · intro i h1 h2
    simp only [List.length_take, List.length_set] at h1 h2
    simp only [List.getElem_take, List.getElem_set]
    split
    · rename_i e; subst e; rfl
    · have hi : i < k := by omega
      have := congrArg (fun l => l[i]?) h
      simp [List.getElem?_take, hi] at this
      rw [List.getElem?_eq_getElem (by omega), List.getElem?_eq_getElem (by omega)] at this
      simpa using this

/-- an element of a list that is copied -/
def toStep (xs : List α) (d : α) (f : α → Option α) (s1 : Int × List α) : Option ((Int × List α) ⊕ List α) :=
  N.cond (N.lt s1.1 (N.len xs)) (N.ite (0 ≤ s1.1) (N.ite (s1.1 < N.len xs) (N.bind (f (N.rd xs s1.1 d)) fun r1 => N.ite (0 ≤ s1.1) (N.ite (s1.1 < N.len s1.2) (some (.inl (N.add .i64 s1.1 1, N.set s1.2 s1.1 r1))) none) none) none) none) (some (.inr s1.2))

theorem toLoop {xs : List α} {d : α} {f : α → Option α} (hf : ∀ x ∈ xs, f x = some x) (hs : xs.length ≤ 1048576) : loopF (toStep xs d f) (0, N.rep (N.len xs) d) = some xs := by
  have key : ∀ (m k : Nat) (ys : List α), k + m = xs.length → ys.length = xs.length → ys.take k = xs.take k → loopF (toStep xs d f) ((k : Int), ys) = some xs := by
    intro m
    induction m with
    | zero =>
      intro k ys hk hl ht
      refine loopF_inr ?_
      have : ys = xs := by
        rw [show k = xs.length by omega] at ht
        rw [List.take_length, ← hl, List.take_length] at ht
        exact ht
      subst this
      simp only [toStep, lt_d, len_d, cond_dec]
      rw [if_neg (by omega)]
    | succ m ih =>
      intro k ys hk hl ht
      have hlt : k < xs.length := by omega
      rw [loopF_inl (s' := (((k + 1 : Nat) : Int), ys.set k xs[k])) ?_]
      · exact ih (k + 1) _ (by omega) (by simp [hl]) (set_grow hlt hl ht)
      · simp only [toStep, ite_if]; simp only [lt_d, len_d, cond_dec]
        rw [if_pos (by omega), if_pos (by omega), if_pos (by omega), rd_at xs k hlt, hf _ (List.getElem_mem hlt), bind_some', if_pos (by omega), if_pos (by omega), next_id hlt (by omega)]
        rfl
  have := key xs.length 0 (N.rep (N.len xs) d) (by omega) (by simp [N.rep, N.len]) (by simp)
  simpa using this

theorem toS_is {xs : List α} {bytes : Nat} {d : α} {f : α → Option α} (hb : bytes ≤ 10000) (hf : ∀ x ∈ xs, f x = some x) (hs : xs.length ≤ 1048576) :
    N.ite (0 ≤ N.len xs) (N.ite (N.room (N.len xs) bytes) (loopF (toStep xs d f) (0, N.rep (N.len xs) d)) none) none = some xs := by
  rw [nite_pos (by simp [N.len]), nite_pos, toLoop hf hs]
  unfold N.room N.len
  have : (xs.length : Int) * bytes ≤ 1048576 * 10000 := Int.mul_le_mul (by omega) (by omega) (by omega) (by omega)
  omega

/-! ## Comparing -/
def eqStep (xs ys : List α) (d : α) (f : α → α → Option Bool) (s1 : Int) : Option (Int ⊕ Bool) :=
  N.cond (N.lt s1 (N.len xs)) (N.ite (0 ≤ s1) (N.ite (s1 < N.len xs) (N.ite (0 ≤ s1) (N.ite (s1 < N.len ys) (N.bind (f (N.rd xs s1 d) (N.rd ys s1 d)) fun r1 => N.cond (N.not r1) (some (.inr false)) (some (.inl (N.add .i64 s1 1)))) none) none) none) none) (some (.inr true))

theorem eqLoop [DecidableEq α] {xs ys : List α} {d : α} {f : α → α → Option Bool} {r : α → α → Bool} (hf : ∀ x ∈ xs, ∀ y ∈ ys, f x y = some (r x y)) (hs : xs.length ≤ 4611686018427387904) (hl : xs.length = ys.length) :
    loopF (eqStep xs ys d f) 0 = some ((List.zip xs ys).all fun p => r p.1 p.2) := by
  have key : ∀ (m k : Nat), k + m = xs.length → loopF (eqStep xs ys d f) (k : Int) = some ((List.zip (xs.drop k) (ys.drop k)).all fun p => r p.1 p.2) := by
    intro m
    induction m with
    | zero =>
      intro k hk
      rw [loopF_inr (r := true) ?_]
      · rw [List.drop_eq_nil_of_le (by omega)]; simp
      · simp only [eqStep, lt_d, len_d, cond_dec]; rw [if_neg (by omega)]
    | succ m ih =>
      intro k hk
      have hlt : k < xs.length := by omega
      have hlt' : k < ys.length := by omega
      rw [List.drop_eq_getElem_cons hlt, List.drop_eq_getElem_cons hlt']
      have hst : eqStep xs ys d f (k : Int) = N.cond (N.not (r xs[k] ys[k])) (some (.inr false)) (some (.inl ((k + 1 : Nat) : Int))) := by
        simp only [eqStep, ite_if]; simp only [lt_d, len_d, cond_dec]
        rw [if_pos (by omega), if_pos (by omega), if_pos (by omega), if_pos (by omega), if_pos (by omega), rd_at xs k hlt, rd_at ys k hlt', hf _ (List.getElem_mem hlt) _ (List.getElem_mem hlt'), bind_some', next_id hlt (by omega)]
      cases hr : r xs[k] ys[k] with
      | true => rw [loopF_inl (s' := ((k + 1 : Nat) : Int)) (by rw [hst, hr]; rfl), ih (k + 1) (by omega)]; simp only [List.zip_cons_cons, List.all_cons, hr, Bool.true_and]
      | false => rw [loopF_inr (r := false) (by rw [hst, hr]; rfl)]; simp only [List.zip_cons_cons, List.all_cons, hr, Bool.false_and]
  simpa using key xs.length 0 (by omega)

theorem zip_all_eq [DecidableEq α] : ∀ {xs ys : List α}, xs.length = ys.length → ((List.zip xs ys).all fun p => decide (p.1 = p.2)) = decide (xs = ys)
  | [], [], _ => by simp
  | x :: xs, y :: ys, h => by
    simp only [List.zip_cons_cons, List.all_cons, zip_all_eq (xs := xs) (ys := ys) (by simpa using h)]
    by_cases h1 : x = y <;> by_cases h2 : xs = ys <;> simp [h1, h2]
  | [], _ :: _, h => by simp at h
  | _ :: _, [], h => by simp at h

theorem eqS_is [DecidableEq α] {xs ys : List α} {d : α} {f : α → α → Option Bool} (hf : ∀ x ∈ xs, ∀ y, f x y = some (decide (x = y))) (hs : xs.length ≤ 4611686018427387904) :
    N.cond (N.ne (N.len xs) (N.len ys)) (some false) (loopF (eqStep xs ys d f) 0) = some (decide (xs = ys)) := by
  simp only [ne_d, len_d, cond_dec]
  split
  · rename_i h
    have : ¬ xs = ys := fun e => h (by rw [e])
    simp [this]
  · rename_i h
    have hl : xs.length = ys.length := by omega
    rw [eqLoop (r := fun x y => decide (x = y)) (fun x hx y _ => hf x hx y) hs hl, zip_all_eq hl]

/-! ## Sizes -/
def SzOk [Data α] (f : α → Int → Option Int) : Prop := ∀ x left, bd x → 0 ≤ left → left ≤ 1048576 → ∃ r, f x left = some r ∧ (r < 0 ∨ (ok x ∧ 0 ≤ r ∧ r ≤ left))

theorem szFlat_is [Data α] [Flat α] : SzOk (fun (xs : List α) (left : Int) => N.cond (N.lt (N.sub .i64 left (N.len xs)) 0) (some (-1)) (some (N.sub .i64 left (N.len xs)))) := by
  intro xs left hb h0 h1
  have h2 := hb.1
  simp only [len_d, lt_d, cond_dec, sub_id (a := left) (b := (xs.length : Int)) (by omega) (by omega)]
  split
  · exact ⟨-1, rfl, .inl (by omega)⟩
  · exact ⟨_, rfl, .inr ⟨⟨by omega, fun x hx => Flat.fl x (hb.2 x hx)⟩, by omega, by omega⟩⟩

end
end Go.Sh
set_option linter.unusedVariables false
set_option linter.unusedSimpArgs false
set_option synthInstance.maxSize 100000
set_option maxHeartbeats 1000000
namespace Go.Sh
open Go Data
namespace D
theorem laws_szLeafS_is : SzOk laws_szLeafS := szFlat_is

theorem laws_toLeaf_is (x : Leaf) (h : ok x) : laws_toLeaf x = some x := rfl

theorem laws_toLeafS_is (x : List Leaf) (h : ok x) : laws_toLeafS x = some x := by
  unfold laws_toLeafS
  exact toS_is (d := (0, 0, false, 0)) (f := laws_toLeaf) (by decide) (fun y hy => laws_toLeaf_is y (h.2 y hy)) h.1

theorem laws_eqLeaf_is (x y : Leaf) (h : ok x) : laws_eqLeaf x y = some (decide (x = y)) := by
  obtain ⟨a0, a1, a2, a3⟩ := x; obtain ⟨b0, b1, b2, b3⟩ := y
  unfold laws_eqLeaf
  simp only [ne_d, neB_d, not_d, cond_dec, Prod.mk.injEq]
  by_cases e0 : a0 = b0 <;> by_cases e1 : a1 = b1 <;> by_cases e2 : a2 = b2 <;> by_cases e3 : a3 = b3 <;> simp [e0, e1, e2, e3]

theorem laws_eqLeafS_is (x y : List Leaf) (h : ok x) : laws_eqLeafS x y = some (decide (x = y)) := by
  unfold laws_eqLeafS
  exact eqS_is (d := (0, 0, false, 0)) (f := laws_eqLeaf) (fun a ha b => laws_eqLeaf_is a b (h.2 a ha)) (by have := h.1; omega)

end D
end Go.Sh
set_option linter.unusedVariables false
set_option linter.unusedSimpArgs false
set_option synthInstance.maxSize 100000
set_option maxHeartbeats 1000000
namespace Go.Sh
open Go Data
namespace D
theorem spec_l1In_is (a b c : Int) : spec_l1In a b c = some (decide (b ≤ a ∧ a ≤ c)) := by
  unfold spec_l1In
  simp only [ge_d, le_d, cond_dec]
  by_cases h1 : b ≤ a <;> by_cases h2 : a ≤ c <;> simp [h1, h2]
theorem impl_InRange_is (a b c : Int) : impl_InRange a b c = some (decide (b ≤ a ∧ a ≤ c)) := by
  unfold impl_InRange
  simp only [ge_d, le_d, cond_dec]
  by_cases h1 : b ≤ a <;> by_cases h2 : a ≤ c <;> simp [h1, h2]
theorem rem_pos {a b : Int} (ha : 0 ≤ a) : N.rem a b = a % b := by unfold N.rem; exact Int.tmod_eq_emod_of_nonneg ha

theorem mod_core {p q : Int} (h1 : 1 ≤ q) (h2 : q ≤ 1000000000000) : N.rem (N.add .i64 (N.rem p q) q) q = p % q := by
  have hr : -q < p.tmod q ∧ p.tmod q < q := by
    constructor
    · have := Int.lt_tmod_of_pos p (by omega : 0 < q); omega
    · exact Int.tmod_lt_of_pos p (by omega)
  have e : N.add .i64 (N.rem p q) q = p.tmod q + q := add_id (by unfold N.rem; omega) (by unfold N.rem; omega)
  rw [e, rem_pos (by omega)]
  have : p.tmod q % q = p % q := by
    have h := Int.mul_tdiv_add_tmod p q
    conv => rhs; rw [← h]
    simp [Int.add_emod]
  rw [Int.add_emod, Int.emod_self, Int.add_zero, Int.emod_emod_of_dvd _ (Int.dvd_refl q), this]

theorem spec_Mod_is {p q : Int} (h1 : 1 ≤ q) (h2 : q ≤ 1000000000000) : spec_Mod p q = some (p % q) := by
  unfold spec_Mod
  rw [spec_l1In_is, bind_some', not_d, cond_dec, if_neg (by simp; omega), nite_neg (by omega), nite_neg (by omega), mod_core h1 h2]
theorem impl_Mod_is {p q : Int} (h1 : 1 ≤ q) (h2 : q ≤ 1000000000000) : impl_Mod p q = some (p % q) := by
  unfold impl_Mod
  rw [impl_InRange_is, bind_some', not_d, cond_dec, if_neg (by simp; omega), nite_neg (by omega), nite_neg (by omega), mod_core h1 h2]

/-! ## Hash -/
def hash1 (h v : Int) : Int := (h * 1000003 + v % 2147483647 + 13) % 2147483647
def hashP (l : List Int) : Int := l.foldl hash1 11
theorem hash1_in (h v : Int) : 0 ≤ hash1 h v ∧ hash1 h v < 2147483647 := by unfold hash1; omega
theorem hash_fold : ∀ (l : List Int) (h : Int), 0 ≤ h → h < 2147483647 → 0 ≤ l.foldl hash1 h ∧ l.foldl hash1 h < 2147483647
  | [], h, h0, h1 => ⟨h0, h1⟩
  | v :: l, h, _, _ => hash_fold l (hash1 h v) (hash1_in h v).1 (hash1_in h v).2
theorem hash_step {h v : Int} (h0 : 0 ≤ h) (h1 : h < 2147483647) : N.rem (N.add .i64 (N.add .i64 (N.mul .i64 h 1000003) (v % 2147483647)) 13) 2147483647 = hash1 h v := by
  rw [mul_id (by omega) (by omega), add_id (a := h * 1000003) (b := v % 2147483647) (by omega) (by omega), add_id (by omega) (by omega), rem_pos (by omega)]; rfl

def hashBody (mod : Int → Int → Option Int) (l : List Int) (s1 : Int × Int) : Option ((Int × Int) ⊕ Int) :=
  N.cond (N.lt s1.2 (N.len l)) (N.ite (0 ≤ s1.2) (N.ite (s1.2 < N.len l) (N.bind (mod (N.rd l s1.2 0) 2147483647) fun r1 => some (.inl (N.rem (N.add .i64 (N.add .i64 (N.mul .i64 s1.1 1000003) r1) 13) 2147483647, N.add .i64 s1.2 1))) none) none) (some (.inr s1.1))

theorem hash_loop {mod : Int → Int → Option Int} (hm : ∀ v, mod v 2147483647 = some (v % 2147483647)) {l : List Int} (hl : l.length ≤ 4611686018427387904) : loopF (hashBody mod l) (11, 0) = some (hashP l) := by
  refine loop_upto l.length (fun k (h : Int) => (h, (k : Int))) (fun k => (l.take k).foldl hash1 11) (hashP l) (fun k hk => ?_) ?_
  · have hin := hash_fold (l.take k) 11 (by omega) (by omega)
    have hb : hashBody mod l ((l.take k).foldl hash1 11, (k : Int)) = some (.inl (hash1 ((l.take k).foldl hash1 11) l[k], ((k + 1 : Nat) : Int))) := by
      simp only [hashBody, ite_if]; simp only [lt_d, len_d, cond_dec]
      rw [if_pos (by omega), if_pos (by omega), if_pos (by omega), rd_at l k hk, hm, bind_some', hash_step hin.1 hin.2, next_id hk (by omega)]
    simp only [hb, List.take_succ_eq_append_getElem hk, List.foldl_append, List.foldl_cons, List.foldl_nil]
  · simp only [hashBody, lt_d, len_d, cond_dec, List.take_length]
    rw [if_neg (by omega)]; rfl

theorem spec_Hash_is {l : List Int} (hl : l.length ≤ 4611686018427387904) : spec_Hash l = some (hashP l) := hash_loop (mod := spec_Mod) (fun v => spec_Mod_is (by omega) (by omega)) hl
theorem impl_Hash_is {l : List Int} (hl : l.length ≤ 4611686018427387904) : impl_Hash l = some (hashP l) := hash_loop (mod := impl_Mod) (fun v => impl_Mod_is (by omega) (by omega)) hl

end D
end Go.Sh
set_option linter.unusedVariables false
set_option linter.unusedSimpArgs false
set_option synthInstance.maxSize 100000
set_option maxHeartbeats 1000000
namespace Go.Sh
open Go Data
/-! ## Loops that look for something -/
theorem loop_find {α S R : Type} {step : S → Option (S ⊕ R)} (xs : List α) (emb : Nat → S) (p : α → Option R) (r0 : R)
    (hstep : ∀ (k : Nat) (hk : k < xs.length), step (emb k) = some (match p xs[k] with | some r => .inr r | none => .inl (emb (k + 1))))
    (hend : step (emb xs.length) = some (.inr r0)) : loopF step (emb 0) = some ((xs.findSome? p).getD r0) := by
  have key : ∀ (m k : Nat), k + m = xs.length → loopF step (emb k) = some (((xs.drop k).findSome? p).getD r0) := by
    intro m
    induction m with
    | zero =>
      intro k hk
      have hk' : k = xs.length := by omega
      subst hk'
      rw [loopF_inr hend, List.drop_length]; rfl
    | succ m ih =>
      intro k hk
      have hlt : k < xs.length := by omega
      rw [List.drop_eq_getElem_cons hlt, List.findSome?_cons]
      cases hp : p xs[k] with
      | none => rw [loopF_inl (s' := emb (k + 1)) (by rw [hstep k hlt, hp]), ih (k + 1) (by omega)]
      | some r => rw [loopF_inr (r := r) (by rw [hstep k hlt, hp])]; rfl
  simpa using key xs.length 0 (by omega)

theorem loop_all {α S : Type} {step : S → Option (S ⊕ Bool)} (xs : List α) (emb : Nat → S) (p : α → Bool)
    (hstep : ∀ (k : Nat) (hk : k < xs.length), step (emb k) = some (if p xs[k] = true then .inl (emb (k + 1)) else .inr false))
    (hend : step (emb xs.length) = some (.inr true)) : loopF step (emb 0) = some (xs.all p) := by
  rw [loop_find xs emb (fun x => if p x = true then none else some false) true (fun k hk => by rw [hstep k hk]; split <;> rfl) hend]
  congr 1
  clear hstep hend
  induction xs with
  | nil => rfl
  | cons y ys ih2 => rw [List.findSome?_cons, List.all_cons]; cases hp : p y <;> simp [ih2]

/-- looking for a place -/
theorem loop_index {α S : Type} {step : S → Option (S ⊕ Int)} (xs : List α) (emb : Nat → S) (p : α → Bool)
    (hstep : ∀ (k : Nat) (hk : k < xs.length), step (emb k) = some (if p xs[k] = true then .inr (k : Int) else .inl (emb (k + 1))))
    (hend : step (emb xs.length) = some (.inr (-1))) : loopF step (emb 0) = some (if xs.any p = true then (xs.findIdx p : Int) else -1) := by
  have key : ∀ (m k : Nat), k + m = xs.length → loopF step (emb k) = some (if (xs.drop k).any p = true then ((k + (xs.drop k).findIdx p : Nat) : Int) else -1) := by
    intro m
    induction m with
    | zero =>
      intro k hk
      have hk' : k = xs.length := by omega
      subst hk'
      rw [loopF_inr hend, List.drop_length]; rfl
    | succ m ih =>
      intro k hk
      have hlt : k < xs.length := by omega
      rw [List.drop_eq_getElem_cons hlt, List.any_cons, List.findIdx_cons]
      cases hp : p xs[k] with
      | false =>
        rw [loopF_inl (s' := emb (k + 1)) (by rw [hstep k hlt, hp]; rfl), ih (k + 1) (by omega)]
        simp only [Bool.false_or, _root_.cond_false]
        split
        · congr 2; omega
        · rfl
      | true => rw [loopF_inr (r := (k : Int)) (by rw [hstep k hlt, hp]; rfl)]; simp
  simpa using key xs.length 0 (by omega)

namespace D
/-! ## Counts -/
end D
end Go.Sh
set_option linter.unusedVariables false
set_option linter.unusedSimpArgs false
set_option synthInstance.maxSize 100000
set_option maxHeartbeats 1000000
namespace Go.Sh
open Go Data
theorem loop_eq2 {α S : Type} [DecidableEq α] {step : S → Option (S ⊕ Bool)} (xs ys : List α) (emb : Nat → S) (hl : xs.length = ys.length)
    (hstep : ∀ (k : Nat) (hk : k < xs.length) (hk' : k < ys.length), step (emb k) = some (if xs[k] = ys[k] then .inl (emb (k + 1)) else .inr false))
    (hend : step (emb xs.length) = some (.inr true)) : loopF step (emb 0) = some (decide (xs = ys)) := by
  rw [← zip_all_eq hl]
  refine loop_all (xs.zip ys) emb (fun p => decide (p.1 = p.2)) (fun k hk => ?_) ?_
  · have h1 : k < xs.length := by simp at hk; omega
    rw [hstep k h1 (by omega)]
    simp only [List.getElem_zip, decide_eq_true_eq]
  · rw [List.length_zip, ← hl, Nat.min_self]; exact hend

/-- the same test, element by element -/
theorem loop_all2 {α β S : Type} {step : S → Option (S ⊕ Bool)} (xs : List α) (ys : List β) (emb : Nat → S) (p : α → β → Bool) (hl : xs.length = ys.length)
    (hstep : ∀ (k : Nat) (hk : k < xs.length) (hk' : k < ys.length), step (emb k) = some (if p xs[k] ys[k] = true then .inl (emb (k + 1)) else .inr false))
    (hend : step (emb xs.length) = some (.inr true)) : loopF step (emb 0) = some ((xs.zip ys).all fun q => p q.1 q.2) := by
  refine loop_all (xs.zip ys) emb (fun q => p q.1 q.2) (fun k hk => ?_) ?_
  · have h1 : k < xs.length := by simp at hk; omega
    rw [hstep k h1 (by omega)]
    simp only [List.getElem_zip]
  · rw [List.length_zip, ← hl, Nat.min_self]; exact hend

/-- collecting -/
theorem loop_flat {α β : Type} {step : List β × Int → Option ((List β × Int) ⊕ List β)} (xs : List α) (f : α → List β)
    (hstep : ∀ (k : Nat) (hk : k < xs.length), step ((xs.take k).flatMap f, (k : Int)) = some (.inl ((xs.take k).flatMap f ++ f xs[k], ((k + 1 : Nat) : Int))))
    (hend : step (xs.flatMap f, (xs.length : Int)) = some (.inr (xs.flatMap f))) : loopF step ([], 0) = some (xs.flatMap f) := by
  refine loop_upto (r := xs.flatMap f) xs.length (fun k (a : List β) => (a, (k : Int))) (fun k => (xs.take k).flatMap f) (fun k hk => ?_) ?_
  · rw [hstep k hk, List.take_succ_eq_append_getElem hk, List.flatMap_append]; simp
  · rw [List.take_length]; exact hend

theorem flat_len {α β : Type} {f : α → List β} {m : Nat} : ∀ (xs : List α), (∀ x ∈ xs, (f x).length ≤ m) → (xs.flatMap f).length ≤ xs.length * m
  | [], _ => by simp
  | x :: xs, h => by
    have h1 := flat_len xs fun y hy => h y (by simp [hy])
    have h2 := h x (by simp)
    simp only [List.flatMap_cons, List.length_append, List.length_cons, Nat.add_mul]; omega
theorem take_flat_len {α β : Type} {f : α → List β} {m k : Nat} {xs : List α} (h : ∀ x ∈ xs, (f x).length ≤ m) (hk : k ≤ xs.length) : ((xs.take k).flatMap f).length ≤ k * m := by
  have := flat_len (xs.take k) fun y hy => h y (List.mem_of_mem_take hy)
  simpa [Nat.min_eq_left hk] using this

theorem fitsN {α : Type} {xs ys : List α} {b : Nat} (h : xs.length + ys.length ≤ 100000000) (hb : b ≤ 1000000) : N.fits xs ys b := by
  unfold N.fits
  exact Nat.le_trans (Nat.mul_le_mul h hb) (by decide)

namespace D
theorem eq_len {α : Type} [DecidableEq α] {x y : List α} {K : Option Bool} (h : x.length = y.length → K = some (decide (x = y))) : N.cond (N.ne (N.len x) (N.len y)) (some false) K = some (decide (x = y)) := by
  simp only [ne_d, len_d, cond_dec]
  split
  · rename_i h1
    have : ¬ x = y := fun e => h1 (by rw [e])
    simp [this]
  · exact h (by omega)

theorem slices_Equal_int_is {x y : List Int} (h : x.length ≤ 4611686018427387904) : slices_Equal_int x y = some (decide (x = y)) := by
  refine eq_len fun hl => loop_eq2 x y (fun k => (k : Int)) hl (fun k hk hk' => ?_) ?_
  · have h0 : (0 : Int) ≤ (k : Int) := by omega
    have h1 : (k : Int) < (x.length : Int) := by omega
    have h2 : (k : Int) < (y.length : Int) := by omega
    simp only [ite_if]; simp only [lt_d, len_d, cond_dec, h0, h1, h2, if_true, rd_at x k hk, rd_at y k hk', ne_d, next_id hk (by omega)]
    by_cases e : x[k] = y[k] <;> simp [e]
  · simp only [lt_d, len_d, cond_dec]; rw [if_neg (by omega)]
theorem spec_EqualInts_is {x y : List Int} (h : x.length ≤ 4611686018427387904) : spec_EqualInts x y = some (decide (x = y)) := slices_Equal_int_is h
end D
end Go.Sh
set_option linter.unusedVariables false
set_option linter.unusedSimpArgs false
set_option synthInstance.maxSize 100000
set_option maxHeartbeats 1000000
namespace Go.Sh
open Go Data
namespace D
/-! ### Leaves -/
def leafBad (x : Leaf) : Bool := if x.2.2.1 = true then decide (¬ x.1 = 0 ∨ ¬ x.2.1 = 0) else decide (¬ (0 ≤ x.1 ∧ x.1 ≤ 255) ∨ ¬ x.2.2.2 = hashP [x.1, x.2.1])
def areLeavesP (l : List Leaf) : Bool := decide (l.length ≤ 100) && !l.any leafBad

theorem impl_AreLeaves_1_is (x : Leaf) : impl_AreLeaves_1 x = some (leafBad x) := by
  unfold impl_AreLeaves_1 leafBad
  rw [impl_InRange_is, bind_some', impl_Hash_is (by simp), bind_some']
  obtain ⟨a, b, c, d⟩ := x
  simp only [ne_d, not_d, cond_dec]
  cases c
  · simp only [cond_false]
    by_cases h1 : 0 ≤ a ∧ a ≤ 255 <;> by_cases h2 : d = hashP [a, b] <;> simp [h1, h2]
  · simp only [cond_true]
    by_cases h1 : a = 0 <;> by_cases h2 : b = 0 <;> simp [h1, h2]

theorem impl_AreLeaves_is {l : List Leaf} (h : l.length ≤ 4611686018427387904) : impl_AreLeaves l = some (areLeavesP l) := by
  unfold impl_AreLeaves slices_ContainsFunc_Leaf_impl_AreLeaves_1 areLeavesP
  have e : slices_IndexFunc_Leaf_impl_AreLeaves_1 l = some (if l.any leafBad = true then (l.findIdx leafBad : Int) else -1) := by
    refine loop_index l (fun k => (k : Int)) leafBad (fun k hk => ?_) ?_
    · have h0 : (0 : Int) ≤ (k : Int) := by omega
      have h1 : (k : Int) < (l.length : Int) := by omega
      simp only [ite_if]; simp only [lt_d, len_d, cond_dec, h0, h1, if_true, rd_at l k hk, impl_AreLeaves_1_is, bind_some', next_id hk (by omega)]
      simp only [cond_if]; split <;> rfl
    · simp only [lt_d, len_d, cond_dec]; rw [if_neg (by omega)]
  rw [e]
  simp only [bind_some', le_d, ge_d, len_d, cond_dec, not_b]
  by_cases h1 : l.length ≤ 100
  · rw [if_pos (by omega)]
    cases h2 : l.any leafBad
    · simp [h1]
    · rw [if_pos rfl]; simp
  · rw [if_neg (by omega)]; simp [h1]

theorem spec_AreLeaves_is {l : List Leaf} (h : l.length ≤ 4611686018427387904) : spec_AreLeaves l = some (areLeavesP l) := by
  refine (loop_find l (fun k => ((k : Nat) : Int)) (fun x => if leafBad x = true then some false else none) (decide (l.length ≤ 100)) (fun k hk => ?_) ?_).trans ?_
  · have h0 : (0 : Int) ≤ (k : Int) := by omega
    have h1 : (k : Int) < (l.length : Int) := by omega
    simp only [ite_if]; simp only [lt_d, len_d, cond_dec, h0, h1, if_true, rd_at l k hk, spec_l1In_is, bind_some', next_id hk (by omega), spec_Hash_is (l := [_, _]) (by simp : 2 ≤ 4611686018427387904), not_d]
    unfold leafBad
    generalize l[k] = x
    obtain ⟨a, b, c, d⟩ := x
    simp only [ne_d, cond_dec]
    cases c
    · by_cases h1 : 0 ≤ a ∧ a ≤ 255 <;> by_cases h2 : d = hashP [a, b] <;> simp [N.not, h1, h2]
    · by_cases h1 : a = 0 <;> by_cases h2 : b = 0 <;> simp [N.not, h1, h2]
  · simp only [lt_d, len_d, cond_dec]; rw [if_neg (by omega)]
    congr 2
    simp only [le_d]
    by_cases h1 : l.length ≤ 100 <;> simp [h1] <;> omega
  · unfold areLeavesP
    congr 1
    induction l with
    | nil => rfl
    | cons x l ih =>
      clear ih
      generalize decide ((x :: l).length ≤ 100) = q
      induction (x :: l) with
      | nil => simp
      | cons y ys ih2 =>
        rw [List.findSome?_cons, List.any_cons]
        cases hb : leafBad y
        · simpa using ih2
        · simp

def sealsP (l : List Leaf) : List Int := l.flatMap fun x => [x.2.2.2]
theorem seals_len (l : List Leaf) : (sealsP l).length = l.length := by
  unfold sealsP; induction l with
  | nil => rfl
  | cons x l ih => simp [List.flatMap_cons, ih]
theorem spec_l22Seals_is {l : List Leaf} (h : ok l) : spec_l22Seals l = some (sealsP l) := by
  have hl := h.1
  refine loop_flat l (fun x => [x.2.2.2]) (fun k hk => ?_) ?_
  · have h0 : (0 : Int) ≤ (k : Int) := by omega
    have h1 : (k : Int) < (l.length : Int) := by omega
    have h2 := take_flat_len (f := fun x : Leaf => [x.2.2.2]) (m := 1) (xs := l) (fun _ _ => by simp) (Nat.le_of_lt hk)
    simp only [ite_if]; simp only [lt_d, len_d, cond_dec, h0, h1, if_true, rd_at l k hk, next_id hk (by omega)]
    rw [if_pos (fitsN (by show (List.flatMap (fun x : Leaf => [x.2.2.2]) (l.take k)).length + 1 ≤ 100000000; omega) (by omega))]; rfl
  · simp only [lt_d, len_d, cond_dec]; rw [if_neg (by omega)]
/-! ### Redactions -/
def redP (x y : Leaf) : Bool := decide (x.2.2.2 = y.2.2.2) && (x.2.2.1 || !y.2.2.1)
def isRedP (l m : List Leaf) : Bool := areLeavesP l && areLeavesP m && decide (l.length = m.length) && (l.zip m).all fun q => redP q.1 q.2
theorem impl_IsRedactionOf_is {l m : List Leaf} (hl : ok l) (hm : ok m) : impl_IsRedactionOf l m = some (isRedP l m) := by
  have h1 := hl.1; have h2 := hm.1
  unfold impl_IsRedactionOf isRedP
  have e1 : ∀ x y, impl_IsRedactionOf_1 x y = some (redP x y) := fun x y => by
    obtain ⟨a, b, c, d⟩ := x; obtain ⟨a', b', c', d'⟩ := y
    unfold impl_IsRedactionOf_1 redP
    simp only [eq_d, cond_dec, not_b]
    by_cases h : d = d' <;> cases c <;> simp [h]
  have e : slices_EqualFunc_Leaf_impl_IsRedactionOf_1 l m = some (decide (l.length = m.length) && (l.zip m).all fun q => redP q.1 q.2) := by
    unfold slices_EqualFunc_Leaf_impl_IsRedactionOf_1
    simp only [ne_d, len_d, cond_dec]
    by_cases hlm : l.length = m.length
    · rw [if_neg (by omega)]
      refine (loop_all2 l m (fun k => ((k : Nat) : Int)) redP hlm (fun k hk hk' => ?_) ?_).trans (by simp [hlm])
      · have h0 : (0 : Int) ≤ (k : Int) := by omega
        have h3 : (k : Int) < (l.length : Int) := by omega
        have h4 : (k : Int) < (m.length : Int) := by omega
        simp only [ite_if]; simp only [lt_d, len_d, cond_dec, h0, h3, h4, if_true, rd_at l k hk, rd_at m k hk', e1, bind_some', next_id hk (by omega)]
        cases redP l[k] m[k] <;> rfl
      · simp only [lt_d, len_d, cond_dec]; rw [if_neg (by omega)]
    · rw [if_pos (by omega)]; simp [hlm]
  rw [impl_AreLeaves_is (by omega), impl_AreLeaves_is (by omega), e]
  simp only [bind_some']
  cases areLeavesP l <;> cases areLeavesP m <;> simp

theorem seals_zip {l m : List Leaf} (h : l.length = m.length) : decide (sealsP l = sealsP m) = (l.zip m).all fun q => decide (q.1.2.2.2 = q.2.2.2.2) := by
  induction l generalizing m with
  | nil => cases m with
    | nil => rfl
    | cons _ _ => simp at h
  | cons x l ih => cases m with
    | nil => simp at h
    | cons y m =>
      simp only [List.zip_cons_cons, List.all_cons, ← ih (m := m) (by simpa using h)]
      simp only [sealsP, List.flatMap_cons, List.cons_append, List.nil_append, List.cons.injEq]
      by_cases h1 : x.2.2.2 = y.2.2.2
      · simp only [h1, true_and, decide_true, Bool.true_and]; exact decide_eq_decide.2 Iff.rfl
      · simp [h1]
theorem spec_IsRedactionOf_is {l m : List Leaf} (hl : ok l) (hm : ok m) : spec_IsRedactionOf l m = some (isRedP l m) := by
  have h1 := hl.1; have h2 := hm.1
  unfold spec_IsRedactionOf isRedP
  rw [spec_AreLeaves_is (by omega), spec_AreLeaves_is (by omega), bind_some', bind_some', spec_l22Seals_is hl, spec_l22Seals_is hm, bind_some', bind_some', spec_EqualInts_is (by rw [seals_len]; omega), bind_some']
  have e : sealsP l = sealsP m → loopF (fun (s1 : Int) => N.cond (N.lt s1 (N.len l)) (N.ite (0 ≤ s1) (N.ite (s1 < N.len l) (N.cond (N.not ((N.rd l s1 (0, 0, false, 0)).2.2.1)) (N.ite (0 ≤ s1) (N.ite (s1 < N.len m) (N.cond ((N.rd m s1 (0, 0, false, 0)).2.2.1) (some (.inr false)) (some (.inl (N.add .i64 s1 1)))) none) none) (some (.inl (N.add .i64 s1 1)))) none) none) (some (.inr true))) 0 = some ((l.zip m).all fun q => q.1.2.2.1 || !q.2.2.2.1) := fun hs => by
    have hlm : l.length = m.length := by rw [← seals_len l, ← seals_len m, hs]
    refine loop_all2 l m (fun k => ((k : Nat) : Int)) (fun x y => x.2.2.1 || !y.2.2.1) hlm (fun k hk hk' => ?_) ?_
    · have h0 : (0 : Int) ≤ (k : Int) := by omega
      have h3 : (k : Int) < (l.length : Int) := by omega
      have h4 : (k : Int) < (m.length : Int) := by omega
      simp only [ite_if]; simp only [lt_d, len_d, cond_dec, h0, h3, h4, if_true, rd_at l k hk, rd_at m k hk', next_id hk (by omega)]
      cases (l[k]).2.2.1 <;> cases (m[k]).2.2.1 <;> rfl
    · simp only [lt_d, len_d, cond_dec]; rw [if_neg (by omega)]
  by_cases hs : sealsP l = sealsP m
  · have hlm : l.length = m.length := by rw [← seals_len l, ← seals_len m, hs]
    have hz := seals_zip hlm
    rw [e hs]
    simp only [hs, decide_true, cond_not, cond_true]
    have ha : ((l.zip m).all fun q => redP q.1 q.2) = ((l.zip m).all fun q => q.1.2.2.1 || !q.2.2.2.1) := by
      rw [hs] at hz
      simp only [decide_true] at hz
      have hz' := (List.all_eq_true.1 hz.symm)
      rw [Bool.eq_iff_iff, List.all_eq_true, List.all_eq_true]
      constructor
      · intro h q hq; have := h q hq; simp only [redP, Bool.and_eq_true] at this; exact this.2
      · intro h q hq; have h3 := hz' q hq; have := h q hq; simp only [redP, Bool.and_eq_true]; exact ⟨h3, this⟩
    rw [ha]
    cases areLeavesP l <;> cases areLeavesP m <;> simp [hlm]
  · simp only [hs, decide_false, cond_not, cond_false]
    have ha : (decide (l.length = m.length) && (l.zip m).all fun q => redP q.1 q.2) = false := by
      by_cases hlm : l.length = m.length
      · have hz := seals_zip hlm
        simp only [hs, decide_false] at hz
        have : ¬ ((l.zip m).all fun q => redP q.1 q.2) = true := fun h => by
          rw [List.all_eq_true] at h
          have : ((l.zip m).all fun q => decide (q.1.2.2.2 = q.2.2.2.2)) = true := List.all_eq_true.2 fun q hq => by
            have := h q hq; simp only [redP, Bool.and_eq_true] at this; exact this.1
          rw [this] at hz; cases hz
        simp only [Bool.not_eq_true] at this
        simp [this]
      · simp [hlm]
    rw [Bool.and_assoc, ha]
    cases areLeavesP l <;> cases areLeavesP m <;> simp
theorem FnExactIsRedactionOf_true (x y : List Leaf) (hx : bd x) (hy : bd y) : laws_FnExactIsRedactionOf x y = some true := by
  unfold laws_FnExactIsRedactionOf
  obtain ⟨s, e, hs⟩ := laws_szLeafS_is x 1048576 hx (by omega) (by omega)
  rw [e, bind_some', lt_d, cond_dec]
  rcases hs with hs | ⟨hk, h0, h1⟩
  · rw [if_pos hs]
  · rw [if_neg (by omega)]
    obtain ⟨s2, e2, hs2⟩ := laws_szLeafS_is y s hy h0 h1
    rw [e2, bind_some', lt_d, cond_dec]
    rcases hs2 with hs2 | ⟨hk2, h2, h3⟩
    · rw [if_pos hs2]
    · rw [if_neg (by omega)]
      simp only [laws_toLeafS_is _ hk, laws_toLeafS_is _ hk2, bind_some', spec_IsRedactionOf_is hk hk2, impl_IsRedactionOf_is hk hk2, laws_eqLeafS_is _ _ hk, laws_eqLeafS_is _ _ hk2, ne_d, neB_d, not_d, cond_dec]
      simp
end D
end Go.Sh
set_option linter.unusedVariables false
set_option linter.unusedSimpArgs false
set_option synthInstance.maxSize 100000
set_option maxHeartbeats 1000000
namespace Go.Sh
open Go Data
namespace D
end D
end Go.Sh
