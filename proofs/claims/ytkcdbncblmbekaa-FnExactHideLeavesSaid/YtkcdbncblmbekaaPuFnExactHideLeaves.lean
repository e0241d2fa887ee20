/- The native forms of the functions that FnExactHideLeaves reaches, and their pure laws: FnExactHideLeaves is true for every input of bounded parts. No condition beyond the bounds that every input keeps. -/
import Derived.Test.YtkcdbncblmbekaaSh8
set_option linter.unusedVariables false
set_option maxRecDepth 100000
set_option maxHeartbeats 4000000
namespace Go.Sh
open Go
namespace N
def nostr : ByteArray := ByteArray.empty
def lit (l : List UInt8) : ByteArray := ⟨l.toArray⟩
def let_ {α R : Type} (x : α) (f : α → Option R) : Option R := f x
end N
namespace D
abbrev Leaf : Type := Int × Int × Bool × Int
noncomputable def spec_l1In (x0 : Int) (x1 : Int) (x2 : Int) : Option (Bool) :=
  N.cond (N.ge x0 x1)
    (some (N.le x0 x2))
    (some false)

noncomputable def laws_toIntS (x0 : List Int) : Option (List Int) :=
  N.ite (0 ≤ N.len x0)
    (
      N.ite (N.room (N.len x0) 8)
        (
          loopF (fun (s1 : Int × List Int) =>
              N.cond (N.lt s1.1 (N.len x0))
                (
                  N.ite (0 ≤ s1.1)
                    (
                      N.ite (s1.1 < N.len x0)
                        (
                          N.ite (0 ≤ s1.1)
                            (
                              N.ite (s1.1 < N.len s1.2)
                                (some (.inl (N.add .i64 s1.1 1, N.set s1.2 s1.1 (N.rd x0 s1.1 0))))
                                none)
                            none)
                        none)
                    none)
                (some (.inr s1.2)))
            (0, N.rep (N.len x0) 0))
        none)
    none

noncomputable def laws_eqIntS (x0 : List Int) (x1 : List Int) : Option (Bool) :=
  N.cond (N.ne (N.len x0) (N.len x1))
    (some false)
    (
      loopF (fun (s1 : Int) =>
          N.cond (N.lt s1 (N.len x0))
            (
              N.ite (0 ≤ s1)
                (
                  N.ite (s1 < N.len x0)
                    (
                      N.ite (0 ≤ s1)
                        (
                          N.ite (s1 < N.len x1)
                            (
                              N.cond (N.ne (N.rd x0 s1 0) (N.rd x1 s1 0))
                                (some (.inr false))
                                (some (.inl (N.add .i64 s1 1))))
                            none)
                        none)
                    none)
                none)
            (some (.inr true)))
        0)

noncomputable def laws_szLeafS (x0 : List Leaf) (x1 : Int) : Option (Int) :=
  N.cond (N.lt (N.sub .i64 x1 (N.len x0)) 0)
    (some (-1))
    (some (N.sub .i64 x1 (N.len x0)))

noncomputable def laws_toLeaf (x0 : Leaf) : Option (Leaf) :=
  some x0

noncomputable def laws_toLeafS (x0 : List Leaf) : Option (List Leaf) :=
  N.ite (0 ≤ N.len x0)
    (
      N.ite (N.room (N.len x0) 32)
        (
          loopF (fun (s1 : Int × List Leaf) =>
              N.cond (N.lt s1.1 (N.len x0))
                (
                  N.ite (0 ≤ s1.1)
                    (
                      N.ite (s1.1 < N.len x0)
                        (
                          N.bind (laws_toLeaf (N.rd x0 s1.1 (0, 0, false, 0))) fun r1 =>
                            N.ite (0 ≤ s1.1)
                              (
                                N.ite (s1.1 < N.len s1.2)
                                  (some (.inl (N.add .i64 s1.1 1, N.set s1.2 s1.1 r1)))
                                  none)
                              none)
                        none)
                    none)
                (some (.inr s1.2)))
            (0, N.rep (N.len x0) (0, 0, false, 0)))
        none)
    none

noncomputable def laws_eqLeaf (x0 : Leaf) (x1 : Leaf) : Option (Bool) :=
  N.cond (N.ne x0.1 x1.1)
    (some false)
    (
      N.cond (N.ne x0.2.1 x1.2.1)
        (some false)
        (
          N.cond (N.neB x0.2.2.1 x1.2.2.1)
            (some false)
            (
              N.cond (N.ne x0.2.2.2 x1.2.2.2)
                (some false)
                (some true))))

noncomputable def laws_eqLeafS (x0 : List Leaf) (x1 : List Leaf) : Option (Bool) :=
  N.cond (N.ne (N.len x0) (N.len x1))
    (some false)
    (
      loopF (fun (s1 : Int) =>
          N.cond (N.lt s1 (N.len x0))
            (
              N.ite (0 ≤ s1)
                (
                  N.ite (s1 < N.len x0)
                    (
                      N.ite (0 ≤ s1)
                        (
                          N.ite (s1 < N.len x1)
                            (
                              N.bind (laws_eqLeaf (N.rd x0 s1 (0, 0, false, 0)) (N.rd x1 s1 (0, 0, false, 0))) fun r1 =>
                                N.cond (N.not r1)
                                  (some (.inr false))
                                  (some (.inl (N.add .i64 s1 1))))
                            none)
                        none)
                    none)
                none)
            (some (.inr true)))
        0)

noncomputable def laws_markLeafS (x0 : List Leaf) (x1 : Int) : Option (Int × (List Leaf)) :=
  loopF (fun (s1 : Int × Int × List Leaf) =>
      N.cond (N.lt s1.2.1 (N.len s1.2.2))
        (
          N.ite (0 ≤ s1.2.1)
            (
              N.ite (s1.2.1 < N.len s1.2.2)
                (
                  N.let_ (N.set s1.2.2 s1.2.1 (s1.1, (N.rd s1.2.2 s1.2.1 (0, 0, false, 0)).2.1, (N.rd s1.2.2 s1.2.1 (0, 0, false, 0)).2.2.1, (N.rd s1.2.2 s1.2.1 (0, 0, false, 0)).2.2.2)) fun v1 =>
                    N.ite (0 ≤ s1.2.1)
                      (
                        N.ite (s1.2.1 < N.len v1)
                          (
                            N.let_ (N.set v1 s1.2.1 ((N.rd v1 s1.2.1 (0, 0, false, 0)).1, N.add .i64 s1.1 1, (N.rd v1 s1.2.1 (0, 0, false, 0)).2.2.1, (N.rd v1 s1.2.1 (0, 0, false, 0)).2.2.2)) fun v2 =>
                              N.ite (0 ≤ s1.2.1)
                                (
                                  N.ite (s1.2.1 < N.len v2)
                                    (
                                      N.let_ (N.set v2 s1.2.1 ((N.rd v2 s1.2.1 (0, 0, false, 0)).1, (N.rd v2 s1.2.1 (0, 0, false, 0)).2.1, N.eq (N.rem (N.add .i64 (N.add .i64 s1.1 1) 1) 3) 0, (N.rd v2 s1.2.1 (0, 0, false, 0)).2.2.2)) fun v3 =>
                                        N.ite (0 ≤ s1.2.1)
                                          (
                                            N.ite (s1.2.1 < N.len v3)
                                              (
                                                N.let_ (N.set v3 s1.2.1 ((N.rd v3 s1.2.1 (0, 0, false, 0)).1, (N.rd v3 s1.2.1 (0, 0, false, 0)).2.1, (N.rd v3 s1.2.1 (0, 0, false, 0)).2.2.1, N.add .i64 (N.add .i64 (N.add .i64 s1.1 1) 1) 1)) fun v4 =>
                                                  some (.inl (N.add .i64 (N.add .i64 (N.add .i64 (N.add .i64 s1.1 1) 1) 1) 1, N.add .i64 s1.2.1 1, v4)))
                                              none)
                                          none)
                                    none)
                                none)
                          none)
                      none)
                none)
            none)
        (some (.inr (s1.1, s1.2.2))))
    (x1, 0, x0)

noncomputable def laws_markIntS (x0 : List Int) (x1 : Int) : Option (Int × (List Int)) :=
  loopF (fun (s1 : Int × Int × List Int) =>
      N.cond (N.lt s1.2.1 (N.len s1.2.2))
        (
          N.ite (0 ≤ s1.2.1)
            (
              N.ite (s1.2.1 < N.len s1.2.2)
                (some (.inl (N.add .i64 s1.1 1, N.add .i64 s1.2.1 1, N.set s1.2.2 s1.2.1 s1.1)))
                none)
            none)
        (some (.inr (s1.1, s1.2.2))))
    (x1, 0, x0)

noncomputable def spec_HideLeaves (x0 : List Leaf) (x1 : List Int) : Option (List Leaf) :=
  N.ite (N.fits [] x0 32)
    (
      loopF (fun (s1 : Int × List Leaf) =>
          N.cond (N.lt s1.1 (N.len x1))
            (
              N.ite (0 ≤ s1.1)
                (
                  N.ite (s1.1 < N.len x1)
                    (
                      N.bind (spec_l1In (N.rd x1 s1.1 0) 0 (N.sub .i64 (N.len x0) 1)) fun r1 =>
                        N.cond r1
                          (
                            N.ite (0 ≤ s1.1)
                              (
                                N.ite (s1.1 < N.len x1)
                                  (
                                    N.ite (0 ≤ s1.1)
                                      (
                                        N.ite (s1.1 < N.len x1)
                                          (
                                            N.ite (0 ≤ N.rd x1 s1.1 0)
                                              (
                                                N.ite (N.rd x1 s1.1 0 < N.len x0)
                                                  (
                                                    N.ite (0 ≤ N.rd x1 s1.1 0)
                                                      (
                                                        N.ite (N.rd x1 s1.1 0 < N.len s1.2)
                                                          (some (.inl (N.add .i64 s1.1 1, N.set s1.2 (N.rd x1 s1.1 0) (0, 0, true, (N.rd x0 (N.rd x1 s1.1 0) (0, 0, false, 0)).2.2.2))))
                                                          none)
                                                      none)
                                                  none)
                                              none)
                                          none)
                                      none)
                                  none)
                              none)
                          (some (.inl (N.add .i64 s1.1 1, s1.2))))
                    none)
                none)
            (some (.inr s1.2)))
        (0, N.app [] x0))
    none

noncomputable def slices_Clone_Leaf (x0 : List Leaf) : Option (List Leaf) :=
  N.nilc (N.isE x0)
    (some [])
    (
      N.ite (N.fits [] x0 32)
        (some (N.app [] x0))
        none)

noncomputable def impl_HideLeaves (x0 : List Leaf) (x1 : List Int) : Option (List Leaf) :=
  N.bind (slices_Clone_Leaf x0) fun r1 =>
    loopF (fun (s1 : Int × List Leaf) =>
        N.cond (N.lt s1.1 (N.len x1))
          (
            N.ite (0 ≤ s1.1)
              (
                N.ite (s1.1 < N.len x1)
                  (
                    N.cond (N.ge (N.rd x1 s1.1 0) 0)
                      (
                        N.cond (N.lt (N.rd x1 s1.1 0) (N.len s1.2))
                          (
                            N.ite (0 ≤ N.rd x1 s1.1 0)
                              (
                                N.ite (N.rd x1 s1.1 0 < N.len s1.2)
                                  (
                                    N.ite (0 ≤ N.rd x1 s1.1 0)
                                      (
                                        N.ite (N.rd x1 s1.1 0 < N.len s1.2)
                                          (some (.inl (N.add .i64 s1.1 1, N.set s1.2 (N.rd x1 s1.1 0) (0, 0, true, (N.rd s1.2 (N.rd x1 s1.1 0) (0, 0, false, 0)).2.2.2))))
                                          none)
                                      none)
                                  none)
                              none)
                          (some (.inl (N.add .i64 s1.1 1, s1.2))))
                      (some (.inl (N.add .i64 s1.1 1, s1.2))))
                  none)
              none)
          (some (.inr s1.2)))
      (0, r1)

noncomputable def laws_heldLeafS (x0 : List Leaf) (x1 : Int) : Option (Int) :=
  loopF (fun (s1 : Int × Int) =>
      N.cond (N.lt s1.2 (N.len x0))
        (
          N.ite (0 ≤ s1.2)
            (
              N.ite (s1.2 < N.len x0)
                (
                  N.cond (N.ne ((N.rd x0 s1.2 (0, 0, false, 0)).1) s1.1)
                    (some (.inr (-1)))
                    (
                      N.ite (0 ≤ s1.2)
                        (
                          N.ite (s1.2 < N.len x0)
                            (
                              N.cond (N.ne ((N.rd x0 s1.2 (0, 0, false, 0)).2.1) (N.add .i64 s1.1 1))
                                (some (.inr (-1)))
                                (
                                  N.ite (0 ≤ s1.2)
                                    (
                                      N.ite (s1.2 < N.len x0)
                                        (
                                          N.cond (N.neB ((N.rd x0 s1.2 (0, 0, false, 0)).2.2.1) (N.eq (N.rem (N.add .i64 (N.add .i64 s1.1 1) 1) 3) 0))
                                            (some (.inr (-1)))
                                            (
                                              N.ite (0 ≤ s1.2)
                                                (
                                                  N.ite (s1.2 < N.len x0)
                                                    (
                                                      N.cond (N.ne ((N.rd x0 s1.2 (0, 0, false, 0)).2.2.2) (N.add .i64 (N.add .i64 (N.add .i64 s1.1 1) 1) 1))
                                                        (some (.inr (-1)))
                                                        (some (.inl (N.add .i64 (N.add .i64 (N.add .i64 (N.add .i64 s1.1 1) 1) 1) 1, N.add .i64 s1.2 1))))
                                                    none)
                                                none))
                                        none)
                                    none))
                            none)
                        none))
                none)
            none)
        (some (.inr s1.1)))
    (x1, 0)

noncomputable def laws_FnExactHideLeaves (x0 : List Leaf) (x1 : List Int) : Option (Bool) :=
  N.cond (N.gt (N.len x1) 1048576)
    (some true)
    (
      N.bind (laws_szLeafS x0 1048576) fun r1 =>
        N.cond (N.lt r1 0)
          (some true)
          (
            N.bind (laws_toLeafS x0) fun r2 =>
              N.bind (laws_toIntS x1) fun r3 =>
                N.bind (spec_HideLeaves r2 r3) fun r4 =>
                  N.bind (laws_toLeafS x0) fun r5 =>
                    N.bind (laws_toIntS x1) fun r6 =>
                      N.bind (impl_HideLeaves r5 r6) fun r7 =>
                        N.bind (laws_eqLeafS r7 r4) fun r8 =>
                          N.cond (N.not r8)
                            (some false)
                            (
                              N.bind (laws_toLeafS x0) fun r9 =>
                                N.bind (laws_eqLeafS r5 r9) fun r10 =>
                                  N.cond (N.not r10)
                                    (some false)
                                    (
                                      N.bind (laws_toIntS x1) fun r11 =>
                                        N.bind (laws_eqIntS r6 r11) fun r12 =>
                                          N.cond (N.not r12)
                                            (some false)
                                            (
                                              N.bind (laws_markLeafS r5 1) fun r13 =>
                                                N.bind (laws_markIntS r6 r13.1) fun r14 =>
                                                  N.cond (N.lt r14.1 0)
                                                    (some false)
                                                    (
                                                      N.bind (laws_eqLeafS r7 r4) fun r15 =>
                                                        N.cond (N.not r15)
                                                          (some false)
                                                          (
                                                            N.bind (laws_markLeafS r7 1) fun r16 =>
                                                              N.bind (laws_heldLeafS r16.2 1) fun r17 =>
                                                                N.cond (N.lt r17 0)
                                                                  (some false)
                                                                  (
                                                                    N.cond (N.ne r17 r16.1)
                                                                      (some false)
                                                                      (
                                                                        N.bind (laws_toLeafS x0) fun r18 =>
                                                                          N.bind (laws_toIntS x1) fun r19 =>
                                                                            N.bind (impl_HideLeaves r18 r19) fun r20 =>
                                                                              N.bind (laws_eqLeafS r20 r4) fun r21 =>
                                                                                N.cond (N.not r21)
                                                                                  (some false)
                                                                                  (
                                                                                    N.bind (laws_heldLeafS r16.2 1) fun r22 =>
                                                                                      N.cond (N.lt r22 0)
                                                                                        (some false)
                                                                                        (
                                                                                          N.cond (N.ne r22 r16.1)
                                                                                            (some false)
                                                                                            (some true))))))))))))

end D
end Go.Sh
set_option linter.unusedVariables false
set_option linter.unusedSimpArgs false
namespace Go.Sh
open Go
/-! ## Loops -/
theorem loopN_det {S R : Type} {step : S → Option (S ⊕ R)} : ∀ {n m : Nat} {s : S} {a b : R}, loopN step n s = some a → loopN step m s = some b → a = b
  | 0, _, _, _, _, h, _ => by simp [loopN] at h
  | _ + 1, 0, _, _, _, _, h => by simp [loopN] at h
  | n + 1, m + 1, s, a, b, h1, h2 => by
    simp only [loopN] at h1 h2
    split at h1
    · cases h1
    · rename_i s' hs; rw [hs] at h2; exact loopN_det h1 h2
    · rename_i r hr; rw [hr] at h2; simp at h1 h2; rw [← h1, ← h2]

theorem loopF_of {S R : Type} {step : S → Option (S ⊕ R)} {s : S} {n : Nat} {r : R} (h : loopN step n s = some r) : loopF step s = some r := by
  have hx : ∃ n r, loopN step n s = some r := ⟨n, r, h⟩
  unfold loopF
  rw [dif_pos hx]
  obtain ⟨m, hm⟩ := Classical.choose_spec hx |> fun h => (⟨_, Classical.choose_spec h⟩ : ∃ v, loopN step (Classical.choose hx) s = some v)
  have := Classical.choose_spec (Classical.choose_spec hx)
  rw [loopN_det this h]

theorem loopF_inr {S R : Type} {step : S → Option (S ⊕ R)} {s : S} {r : R} (h : step s = some (.inr r)) : loopF step s = some r :=
  loopF_of (n := 1) (by simp [loopN, h])

theorem loopF_inl {S R : Type} {step : S → Option (S ⊕ R)} {s s' : S} (h : step s = some (.inl s')) : loopF step s = loopF step s' := by
  by_cases hx : ∃ n r, loopN step n s' = some r
  · obtain ⟨n, r, hn⟩ := hx
    rw [loopF_of hn, loopF_of (n := n + 1) (r := r) (by simp [loopN, h, hn])]
  · have hy : ¬ ∃ n r, loopN step n s = some r := by
      rintro ⟨n, r, hn⟩
      cases n with
      | zero => simp [loopN] at hn
      | succ n => simp only [loopN, h] at hn; exact hx ⟨n, r, hn⟩
    unfold loopF
    rw [dif_neg hx, dif_neg hy]

/-- counting up to n -/
theorem loop_upto {σ S R : Type} {step : S → Option (S ⊕ R)} (n : Nat) (emb : Nat → σ → S) (st : Nat → σ) (r : R)
    (hstep : ∀ k < n, step (emb k (st k)) = some (.inl (emb (k + 1) (st (k + 1))))) (hend : step (emb n (st n)) = some (.inr r)) : loopF step (emb 0 (st 0)) = some r := by
  have key : ∀ (m k : Nat), k + m = n → loopF step (emb k (st k)) = some r := by
    intro m
    induction m with
    | zero => intro k hk; have : k = n := by omega
              subst this; exact loopF_inr hend
    | succ m ih => intro k hk; rw [loopF_inl (hstep k (by omega))]; exact ih (k + 1) (by omega)
  exact key n 0 (by omega)

/-! ## Words -/
section
variable {R α β : Type}
@[simp] theorem bind_some' (x : β) (f : β → Option R) : N.bind (some x) f = f x := rfl
@[simp] theorem cond_true (x y : Option R) : N.cond true x y = x := rfl
@[simp] theorem cond_false (x y : Option R) : N.cond false x y = y := rfl
theorem cond_dec (p : Prop) [Decidable p] (x y : Option R) : N.cond (decide p) x y = if p then x else y := by unfold N.cond; by_cases h : p <;> simp [h]
theorem ite_if (c : Prop) [Decidable c] (x y : Option R) : N.ite c x y = if c then x else y := rfl
theorem nite_pos {c : Prop} [Decidable c] (h : c) (x y : Option R) : N.ite c x y = x := if_pos h
theorem lt_d (a b : Int) : N.lt a b = decide (a < b) := rfl
theorem le_d (a b : Int) : N.le a b = decide (a ≤ b) := rfl
theorem gt_d (a b : Int) : N.gt a b = decide (b < a) := rfl
theorem ge_d (a b : Int) : N.ge a b = decide (b ≤ a) := rfl
theorem eq_d (a b : Int) : N.eq a b = decide (a = b) := rfl
theorem ne_d (a b : Int) : N.ne a b = decide (¬ a = b) := by
  unfold N.ne; by_cases h : a = b <;> simp [h]
theorem len_d (xs : List α) : N.len xs = (xs.length : Int) := by simp [N.len]
theorem rd_at (xs : List α) (k : Nat) (hk : k < xs.length) (d : α) : N.rd xs (k : Int) d = xs[k] := by
  simp [N.rd, List.getD, hk]
theorem wrap_id {n : Int} (h1 : -9223372036854775808 ≤ n) (h2 : n < 9223372036854775808) : IntKind.i64.wrap n = n := by
  have e1 : ((2 : Int) ^ IntKind.i64.bits) = 18446744073709551616 := by decide
  have e2 : ((2 : Int) ^ (IntKind.i64.bits - 1)) = 9223372036854775808 := by decide
  have e3 : IntKind.i64.signed = true := rfl
  unfold IntKind.wrap
  rw [e1, e2, e3]
  simp only [Bool.true_and, decide_eq_true_eq]
  split <;> omega
theorem add_id {a b : Int} (h1 : -9223372036854775808 ≤ a + b) (h2 : a + b < 9223372036854775808) : N.add .i64 a b = a + b := wrap_id h1 h2
theorem sub_id {a b : Int} (h1 : -9223372036854775808 ≤ a - b) (h2 : a - b < 9223372036854775808) : N.sub .i64 a b = a - b := wrap_id h1 h2
theorem next_id {k n : Nat} (hk : k < n) (hn : (n : Int) < 9223372036854775808) : N.add .i64 (k : Int) 1 = ((k + 1 : Nat) : Int) := by
  rw [add_id (by omega) (by omega)]; omega
end
end Go.Sh
set_option linter.unusedVariables false
set_option linter.unusedSimpArgs false
namespace Go.Sh
open Go
/-! ## Bounds of data -/
class Data (α : Type) where
  bd : α → Prop
  ok : α → Prop
  le : ∀ x, ok x → bd x
class Flat (α : Type) [Data α] where
  fl : ∀ x : α, Data.bd x → Data.ok x
open Data
instance : Data Int := ⟨fun x => -9223372036854775808 ≤ x ∧ x < 9223372036854775808, fun x => -9223372036854775808 ≤ x ∧ x < 9223372036854775808, fun _ h => h⟩
instance : Data Bool := ⟨fun _ => True, fun _ => True, fun _ h => h⟩
instance : Data ByteArray := ⟨fun s => s.size ≤ 4611686018427387904, fun s => s.size ≤ 4611686018427387904, fun _ h => h⟩
instance {α β : Type} [Data α] [Data β] : Data (α × β) := ⟨fun x => bd x.1 ∧ bd x.2, fun x => ok x.1 ∧ ok x.2, fun x h => ⟨le _ h.1, le _ h.2⟩⟩
instance {α : Type} [Data α] : Data (List α) := ⟨fun xs => xs.length ≤ 4611686018427387904 ∧ ∀ x ∈ xs, bd x, fun xs => xs.length ≤ 1048576 ∧ ∀ x ∈ xs, ok x, fun xs h => ⟨by omega, fun x hx => le x (h.2 x hx)⟩⟩
instance : Flat Int := ⟨fun _ h => h⟩
instance : Flat Bool := ⟨fun _ h => h⟩
instance : Flat ByteArray := ⟨fun _ h => h⟩
instance {α β : Type} [Data α] [Data β] [Flat α] [Flat β] : Flat (α × β) := ⟨fun x h => ⟨Flat.fl _ h.1, Flat.fl _ h.2⟩⟩

section
variable {α : Type} [Data α]
theorem Data.ok.sub {xs ys : List α} (h : ok xs) (hs : ys.Sublist xs) : ok ys := ⟨Nat.le_trans hs.length_le h.1, fun x hx => h.2 x (hs.subset hx)⟩
end
/-! ## Words, once more -/
section
variable {R α β : Type}
theorem neB_d (a b : Bool) : N.neB a b = decide (¬ a = b) := by cases a <;> cases b <;> rfl
theorem not_d (p : Prop) [Decidable p] : N.not (decide p) = decide (¬ p) := by unfold N.not; by_cases h : p <;> simp [h]
/-! ## Copies -/
theorem set_grow {xs ys : List α} {k : Nat} (hk : k < xs.length) (hl : ys.length = xs.length) (h : ys.take k = xs.take k) : (ys.set k xs[k]).take (k + 1) = xs.take (k + 1) := by
  apply List.ext_getElem
  · simp [hl]
  · intro i h1 h2
    simp only [List.length_take, List.length_set] at h1 h2
    simp only [List.getElem_take, List.getElem_set]
    split
    · rename_i e; subst e; rfl
    · have hi : i < k := by omega
      have := congrArg (fun l => l[i]?) h
      simp [List.getElem?_take, hi] at this
      rw [List.getElem?_eq_getElem (by omega), List.getElem?_eq_getElem (by omega)] at this
      simpa using this

/-- an element of a list that is copied -/
def toStep (xs : List α) (d : α) (f : α → Option α) (s1 : Int × List α) : Option ((Int × List α) ⊕ List α) :=
  N.cond (N.lt s1.1 (N.len xs)) (N.ite (0 ≤ s1.1) (N.ite (s1.1 < N.len xs) (N.bind (f (N.rd xs s1.1 d)) fun r1 => N.ite (0 ≤ s1.1) (N.ite (s1.1 < N.len s1.2) (some (.inl (N.add .i64 s1.1 1, N.set s1.2 s1.1 r1))) none) none) none) none) (some (.inr s1.2))

theorem toLoop {xs : List α} {d : α} {f : α → Option α} (hf : ∀ x ∈ xs, f x = some x) (hs : xs.length ≤ 1048576) : loopF (toStep xs d f) (0, N.rep (N.len xs) d) = some xs := by
  have key : ∀ (m k : Nat) (ys : List α), k + m = xs.length → ys.length = xs.length → ys.take k = xs.take k → loopF (toStep xs d f) ((k : Int), ys) = some xs := by
    intro m
    induction m with
    | zero =>
      intro k ys hk hl ht
      refine loopF_inr ?_
      have : ys = xs := by
        rw [show k = xs.length by omega] at ht
        rw [List.take_length, ← hl, List.take_length] at ht
        exact ht
      subst this
      simp only [toStep, lt_d, len_d, cond_dec]
      rw [if_neg (by omega)]
    | succ m ih =>
      intro k ys hk hl ht
      have hlt : k < xs.length := by omega
      rw [loopF_inl (s' := (((k + 1 : Nat) : Int), ys.set k xs[k])) ?_]
      · exact ih (k + 1) _ (by omega) (by simp [hl]) (set_grow hlt hl ht)
      · simp only [toStep, ite_if]; simp only [lt_d, len_d, cond_dec]
        rw [if_pos (by omega), if_pos (by omega), if_pos (by omega), rd_at xs k hlt, hf _ (List.getElem_mem hlt), bind_some', if_pos (by omega), if_pos (by omega), next_id hlt (by omega)]
        rfl
  have := key xs.length 0 (N.rep (N.len xs) d) (by omega) (by simp [N.rep, N.len]) (by simp)
  simpa using this

theorem toS_is {xs : List α} {bytes : Nat} {d : α} {f : α → Option α} (hb : bytes ≤ 10000) (hf : ∀ x ∈ xs, f x = some x) (hs : xs.length ≤ 1048576) :
    N.ite (0 ≤ N.len xs) (N.ite (N.room (N.len xs) bytes) (loopF (toStep xs d f) (0, N.rep (N.len xs) d)) none) none = some xs := by
  rw [nite_pos (by simp [N.len]), nite_pos, toLoop hf hs]
  unfold N.room N.len
  have : (xs.length : Int) * bytes ≤ 1048576 * 10000 := Int.mul_le_mul (by omega) (by omega) (by omega) (by omega)
  omega

/-! ## Comparing -/
def eqStep (xs ys : List α) (d : α) (f : α → α → Option Bool) (s1 : Int) : Option (Int ⊕ Bool) :=
  N.cond (N.lt s1 (N.len xs)) (N.ite (0 ≤ s1) (N.ite (s1 < N.len xs) (N.ite (0 ≤ s1) (N.ite (s1 < N.len ys) (N.bind (f (N.rd xs s1 d) (N.rd ys s1 d)) fun r1 => N.cond (N.not r1) (some (.inr false)) (some (.inl (N.add .i64 s1 1)))) none) none) none) none) (some (.inr true))

theorem eqLoop [DecidableEq α] {xs ys : List α} {d : α} {f : α → α → Option Bool} {r : α → α → Bool} (hf : ∀ x ∈ xs, ∀ y ∈ ys, f x y = some (r x y)) (hs : xs.length ≤ 4611686018427387904) (hl : xs.length = ys.length) :
    loopF (eqStep xs ys d f) 0 = some ((List.zip xs ys).all fun p => r p.1 p.2) := by
  have key : ∀ (m k : Nat), k + m = xs.length → loopF (eqStep xs ys d f) (k : Int) = some ((List.zip (xs.drop k) (ys.drop k)).all fun p => r p.1 p.2) := by
    intro m
    induction m with
    | zero =>
      intro k hk
      rw [loopF_inr (r := true) ?_]
      · rw [List.drop_eq_nil_of_le (by omega)]; simp
      · simp only [eqStep, lt_d, len_d, cond_dec]; rw [if_neg (by omega)]
    | succ m ih =>
      intro k hk
      have hlt : k < xs.length := by omega
      have hlt' : k < ys.length := by omega
      rw [List.drop_eq_getElem_cons hlt, List.drop_eq_getElem_cons hlt']
      have hst : eqStep xs ys d f (k : Int) = N.cond (N.not (r xs[k] ys[k])) (some (.inr false)) (some (.inl ((k + 1 : Nat) : Int))) := by
        simp only [eqStep, ite_if]; simp only [lt_d, len_d, cond_dec]
        rw [if_pos (by omega), if_pos (by omega), if_pos (by omega), if_pos (by omega), if_pos (by omega), rd_at xs k hlt, rd_at ys k hlt', hf _ (List.getElem_mem hlt) _ (List.getElem_mem hlt'), bind_some', next_id hlt (by omega)]
      cases hr : r xs[k] ys[k] with
      | true => rw [loopF_inl (s' := ((k + 1 : Nat) : Int)) (by rw [hst, hr]; rfl), ih (k + 1) (by omega)]; simp only [List.zip_cons_cons, List.all_cons, hr, Bool.true_and]
      | false => rw [loopF_inr (r := false) (by rw [hst, hr]; rfl)]; simp only [List.zip_cons_cons, List.all_cons, hr, Bool.false_and]
  simpa using key xs.length 0 (by omega)

theorem zip_all_eq [DecidableEq α] : ∀ {xs ys : List α}, xs.length = ys.length → ((List.zip xs ys).all fun p => decide (p.1 = p.2)) = decide (xs = ys)
  | [], [], _ => by simp
  | x :: xs, y :: ys, h => by
    simp only [List.zip_cons_cons, List.all_cons, zip_all_eq (xs := xs) (ys := ys) (by simpa using h)]
    by_cases h1 : x = y <;> by_cases h2 : xs = ys <;> simp [h1, h2]
  | [], _ :: _, h => by simp at h
  | _ :: _, [], h => by simp at h

theorem eqS_is [DecidableEq α] {xs ys : List α} {d : α} {f : α → α → Option Bool} (hf : ∀ x ∈ xs, ∀ y, f x y = some (decide (x = y))) (hs : xs.length ≤ 4611686018427387904) :
    N.cond (N.ne (N.len xs) (N.len ys)) (some false) (loopF (eqStep xs ys d f) 0) = some (decide (xs = ys)) := by
  simp only [ne_d, len_d, cond_dec]
  split
  · rename_i h
    have : ¬ xs = ys := fun e => h (by rw [e])
    simp [this]
  · rename_i h
    have hl : xs.length = ys.length := by omega
    rw [eqLoop (r := fun x y => decide (x = y)) (fun x hx y _ => hf x hx y) hs hl, zip_all_eq hl]

/-! ## Sizes -/
def SzOk [Data α] (f : α → Int → Option Int) : Prop := ∀ x left, bd x → 0 ≤ left → left ≤ 1048576 → ∃ r, f x left = some r ∧ (r < 0 ∨ (ok x ∧ 0 ≤ r ∧ r ≤ left))

theorem szFlat_is [Data α] [Flat α] : SzOk (fun (xs : List α) (left : Int) => N.cond (N.lt (N.sub .i64 left (N.len xs)) 0) (some (-1)) (some (N.sub .i64 left (N.len xs)))) := by
  intro xs left hb h0 h1
  have h2 := hb.1
  simp only [len_d, lt_d, cond_dec, sub_id (a := left) (b := (xs.length : Int)) (by omega) (by omega)]
  split
  · exact ⟨-1, rfl, .inl (by omega)⟩
  · exact ⟨_, rfl, .inr ⟨⟨by omega, fun x hx => Flat.fl x (hb.2 x hx)⟩, by omega, by omega⟩⟩

end
end Go.Sh
set_option linter.unusedVariables false
set_option linter.unusedSimpArgs false
set_option synthInstance.maxSize 100000
set_option maxHeartbeats 1000000
namespace Go.Sh
open Go Data
namespace D
theorem laws_toIntS_is (x : List Int) (h : ok x) : laws_toIntS x = some x := by
  unfold laws_toIntS
  exact toS_is (d := 0) (f := fun y => some y) (by decide) (fun y hy => rfl) h.1

theorem laws_eqIntS_is (x y : List Int) (h : ok x) : laws_eqIntS x y = some (decide (x = y)) := by
  have e : laws_eqIntS x y = N.cond (N.ne (N.len x) (N.len y)) (some false) (loopF (eqStep x y 0 fun a b => some (decide (a = b))) 0) := by
    unfold laws_eqIntS
    congr 2 <;> (funext s; simp only [eqStep, bind_some', ne_d, not_d, cond_dec]; try simp only [ite_not])
  rw [e]
  exact eqS_is (fun a ha b => rfl) (by have := h.1; omega)

theorem laws_szLeafS_is : SzOk laws_szLeafS := szFlat_is

theorem laws_toLeaf_is (x : Leaf) (h : ok x) : laws_toLeaf x = some x := rfl

theorem laws_toLeafS_is (x : List Leaf) (h : ok x) : laws_toLeafS x = some x := by
  unfold laws_toLeafS
  exact toS_is (d := (0, 0, false, 0)) (f := laws_toLeaf) (by decide) (fun y hy => laws_toLeaf_is y (h.2 y hy)) h.1

theorem laws_eqLeaf_is (x y : Leaf) (h : ok x) : laws_eqLeaf x y = some (decide (x = y)) := by
  obtain ⟨a0, a1, a2, a3⟩ := x; obtain ⟨b0, b1, b2, b3⟩ := y
  unfold laws_eqLeaf
  simp only [ne_d, neB_d, not_d, cond_dec, Prod.mk.injEq]
  by_cases e0 : a0 = b0 <;> by_cases e1 : a1 = b1 <;> by_cases e2 : a2 = b2 <;> by_cases e3 : a3 = b3 <;> simp [e0, e1, e2, e3]

theorem laws_eqLeafS_is (x y : List Leaf) (h : ok x) : laws_eqLeafS x y = some (decide (x = y)) := by
  unfold laws_eqLeafS
  exact eqS_is (d := (0, 0, false, 0)) (f := laws_eqLeaf) (fun a ha b => laws_eqLeaf_is a b (h.2 a ha)) (by have := h.1; omega)

end D
end Go.Sh
set_option linter.unusedVariables false
set_option linter.unusedSimpArgs false
set_option synthInstance.maxSize 100000
set_option maxHeartbeats 1000000
namespace Go.Sh
open Go Data
namespace D
theorem spec_l1In_is (a b c : Int) : spec_l1In a b c = some (decide (b ≤ a ∧ a ≤ c)) := by
  unfold spec_l1In
  simp only [ge_d, le_d, cond_dec]
  by_cases h1 : b ≤ a <;> by_cases h2 : a ≤ c <;> simp [h1, h2]
theorem rem_pos {a b : Int} (ha : 0 ≤ a) : N.rem a b = a % b := by unfold N.rem; exact Int.tmod_eq_emod_of_nonneg ha

end D
end Go.Sh
set_option linter.unusedVariables false
set_option linter.unusedSimpArgs false
set_option synthInstance.maxSize 100000
set_option maxHeartbeats 1000000
namespace Go.Sh
open Go Data
namespace D
/-! ## Counts -/
end D
end Go.Sh
set_option linter.unusedVariables false
set_option linter.unusedSimpArgs false
set_option synthInstance.maxSize 100000
set_option maxHeartbeats 1000000
namespace Go.Sh
open Go Data
theorem fitsN {α : Type} {xs ys : List α} {b : Nat} (h : xs.length + ys.length ≤ 100000000) (hb : b ≤ 1000000) : N.fits xs ys b := by
  unfold N.fits
  exact Nat.le_trans (Nat.mul_le_mul h hb) (by decide)

namespace D
end D
end Go.Sh
set_option linter.unusedVariables false
set_option linter.unusedSimpArgs false
set_option synthInstance.maxSize 100000
set_option maxHeartbeats 1000000
namespace Go.Sh
open Go Data
namespace D
end D
end Go.Sh
set_option linter.unusedVariables false
set_option linter.unusedSimpArgs false
set_option synthInstance.maxSize 100000
set_option maxHeartbeats 1000000
namespace Go.Sh
open Go Data
namespace D
end D
end Go.Sh
set_option linter.unusedVariables false
set_option linter.unusedSimpArgs false
set_option synthInstance.maxSize 100000
set_option maxHeartbeats 1000000
namespace Go.Sh
open Go Data
theorem let_eq {α R : Type} (x : α) (f : α → Option R) : N.let_ x f = f x := rfl
theorem len_set {α : Type} (xs : List α) (i : Int) (v : α) : N.len (N.set xs i v) = N.len xs := by simp [N.len, N.set]
theorem rd_set {α : Type} {xs : List α} {i : Nat} (h : i < xs.length) (v d : α) : N.rd (N.set xs (i : Int) v) (i : Int) d = v := by simp [N.rd, N.set, List.getD, h]
theorem set_set {α : Type} (xs : List α) (i : Int) (v w : α) : N.set (N.set xs i v) i w = N.set xs i w := by simp [N.set]
theorem set_at {α : Type} (xs : List α) (i : Nat) (v : α) : N.set xs (i : Int) v = xs.set i v := by simp [N.set]

/-! ## Marks -/
def markL {α : Type} (mk : Int → α → α) (c : Int) : List α → Int → List α
  | [], _ => []
  | x :: xs, k => mk k x :: markL mk c xs (k + c)
theorem markL_len {α : Type} {mk : Int → α → α} {c : Int} : ∀ (xs : List α) (k : Int), (markL mk c xs k).length = xs.length
  | [], _ => rfl
  | x :: xs, k => by simp [markL, markL_len xs]
theorem markL_at {α : Type} {mk : Int → α → α} {c : Int} : ∀ (xs : List α) (k : Int) (i : Nat) (hi : i < xs.length) (hi' : i < (markL mk c xs k).length), (markL mk c xs k)[i] = mk (k + c * i) xs[i]
  | x :: xs, k, 0, _, _ => by simp [markL]
  | x :: xs, k, i + 1, hi, hi' => by
    simp only [markL, List.getElem_cons_succ]
    rw [markL_at xs (k + c) i (by simpa using hi)]
    congr 1
    rw [show ((i + 1 : Nat) : Int) = (i : Int) + 1 from by omega, Int.mul_add, Int.mul_one]; omega
theorem markL_app {α : Type} {mk : Int → α → α} {c : Int} : ∀ (xs ys : List α) (k : Int), markL mk c (xs ++ ys) k = markL mk c xs k ++ markL mk c ys (k + c * xs.length)
  | [], ys, k => by simp [markL]
  | x :: xs, ys, k => by
    simp only [List.cons_append, markL, markL_app xs ys, List.length_cons]
    rw [show ((xs.length + 1 : Nat) : Int) = (xs.length : Int) + 1 from by omega, Int.mul_add, Int.mul_one, show k + c + c * (xs.length : Int) = k + (c * (xs.length : Int) + c) from by omega]

theorem mark_loop {α : Type} {step : Int × Int × List α → Option ((Int × Int × List α) ⊕ (Int × List α))} {c B : Int} {mk : Int → α → α} (hc : 0 ≤ c)
    (hstep : ∀ (k : Int) (i : Nat) (ys : List α) (hi : i < ys.length), 0 ≤ k → k ≤ B → ys.length ≤ 1048576 → step (k, (i : Int), ys) = some (.inl (k + c, ((i + 1 : Nat) : Int), ys.set i (mk k ys[i]))))
    (hend : ∀ (k : Int) (ys : List α), step (k, (ys.length : Int), ys) = some (.inr (k, ys))) {xs : List α} {k : Int} (h0 : 0 ≤ k) (hB : k + c * xs.length ≤ B) (hl : xs.length ≤ 1048576) :
    loopF step (k, 0, xs) = some (k + c * xs.length, markL mk c xs k) := by
  have key : ∀ (m i : Nat), i + m = xs.length → loopF step (k + c * i, (i : Int), markL mk c (xs.take i) k ++ xs.drop i) = some (k + c * xs.length, markL mk c xs k) := by
    intro m
    induction m with
    | zero =>
      intro i hi
      have hi' : i = xs.length := by omega
      subst hi'
      rw [List.take_length, List.drop_length, List.append_nil]
      have := hend (k + c * xs.length) (markL mk c xs k)
      rw [markL_len] at this
      exact loopF_inr this
    | succ m ih =>
      intro i hi
      have hlt : i < xs.length := by omega
      have hle : c * (i : Int) ≤ c * (xs.length : Int) := Int.mul_le_mul_of_nonneg_left (by omega) hc
      have hge : 0 ≤ c * (i : Int) := Int.mul_nonneg hc (by omega)
      have hlen : (markL mk c (xs.take i) k).length = i := by rw [markL_len, List.length_take]; omega
      have hs := hstep (k + c * i) i (markL mk c (xs.take i) k ++ xs.drop i) (by rw [List.length_append, hlen, List.length_drop]; omega) (by omega) (by omega) (by rw [List.length_append, hlen, List.length_drop]; omega)
      rw [loopF_inl hs]
      have e1 : (markL mk c (xs.take i) k ++ xs.drop i)[i]'(by rw [List.length_append, hlen, List.length_drop]; omega) = xs[i] := by
        rw [List.getElem_append_right (by omega)]
        simp only [hlen, Nat.sub_self, List.getElem_drop, Nat.add_zero]
      have e2 : (markL mk c (xs.take i) k ++ xs.drop i).set i (mk (k + c * i) xs[i]) = markL mk c (xs.take (i + 1)) k ++ xs.drop (i + 1) := by
        rw [List.take_succ_eq_append_getElem hlt, markL_app, List.length_take, Nat.min_eq_left (by omega), List.set_append_right _ _ (by omega), hlen, Nat.sub_self, List.drop_eq_getElem_cons hlt, List.set_cons_zero, List.append_assoc]; rfl
      rw [e1, e2, show k + c * (i : Int) + c = k + c * ((i + 1 : Nat) : Int) from by rw [show ((i + 1 : Nat) : Int) = (i : Int) + 1 from by omega, Int.mul_add, Int.mul_one]; omega]
      exact ih (i + 1) (by omega)
  have := key xs.length 0 (by omega)
  simpa [markL] using this

theorem held_loop {α : Type} {step : Int × Int → Option ((Int × Int) ⊕ Int)} {c B : Int} {mk : Int → α → α} {xs : List α} {k : Int} (hc : 0 ≤ c)
    (hstep : ∀ (q : Int) (i : Nat) (hi : i < xs.length) (hi' : i < (markL mk c xs k).length), (markL mk c xs k)[i] = mk q xs[i] → 0 ≤ q → q ≤ B → step (q, (i : Int)) = some (.inl (q + c, ((i + 1 : Nat) : Int))))
    (hend : ∀ (q : Int), step (q, (xs.length : Int)) = some (.inr q)) (h0 : 0 ≤ k) (hB : k + c * xs.length ≤ B) : loopF step (k, 0) = some (k + c * xs.length) := by
  have := loop_upto (step := step) (r := k + c * xs.length) xs.length (fun i (q : Int) => (q, (i : Int))) (fun i => k + c * i) (fun i hi => ?_) ?_
  · simpa using this
  · have hle : c * (i : Int) ≤ c * (xs.length : Int) := Int.mul_le_mul_of_nonneg_left (by omega) hc
    have hge : 0 ≤ c * (i : Int) := Int.mul_nonneg hc (by omega)
    have hi' : i < (markL mk c xs k).length := by rw [markL_len]; exact hi
    rw [hstep (k + c * i) i hi hi' (markL_at xs k i hi hi') (by omega) (by omega)]
    rw [show k + c * (i : Int) + c = k + c * ((i + 1 : Nat) : Int) from by rw [show ((i + 1 : Nat) : Int) = (i : Int) + 1 from by omega, Int.mul_add, Int.mul_one]; omega]
  · rw [hend]

namespace D
def mkIntS (k : Int) (_ : Int) : Int := k
theorem laws_markIntS_is {x : List Int} {k : Int} (h0 : 0 ≤ k) (hk : k ≤ 1000000000) (h : ok x) : laws_markIntS x k = some (k + 1 * x.length, markL mkIntS 1 x k) := by
  have hl := h.1
  refine mark_loop (B := 100000000000) (c := 1) (mk := mkIntS) (by omega) (fun k i ys hi h0 h1 hl => ?_) (fun k ys => ?_) h0 (by omega) hl
  · have i0 : (0 : Int) ≤ (i : Int) := by omega
    have i1 : (i : Int) < (ys.length : Int) := by omega
    have a0 : N.add .i64 (k) 1 = k + 1 := add_id (by omega) (by omega)
    have e : k + 1 = k + 1 := by omega
    simp only [ite_if]; (try simp only [let_eq, len_set]); simp only [set_set, rd_set hi, lt_d, len_d, cond_dec, i0, i1, if_true, a0, eq_d, next_id hi (by omega), e]
    rw [set_at]; rfl
  · simp only [lt_d, len_d, cond_dec]; rw [if_neg (by omega)]
def mkLeafS (k : Int) (_ : Leaf) : Leaf := (k, k + 1, decide ((k + 1 + 1) % 3 = 0), k + 1 + 1 + 1)
theorem laws_markLeafS_is {x : List Leaf} {k : Int} (h0 : 0 ≤ k) (hk : k ≤ 1000000000) (h : ok x) : laws_markLeafS x k = some (k + 4 * x.length, markL mkLeafS 4 x k) := by
  have hl := h.1
  refine mark_loop (B := 100000000000) (c := 4) (mk := mkLeafS) (by omega) (fun k i ys hi h0 h1 hl => ?_) (fun k ys => ?_) h0 (by omega) hl
  · have i0 : (0 : Int) ≤ (i : Int) := by omega
    have i1 : (i : Int) < (ys.length : Int) := by omega
    have a0 : N.add .i64 (k) 1 = k + 1 := add_id (by omega) (by omega)
    have a1 : N.add .i64 (k + 1) 1 = k + 1 + 1 := add_id (by omega) (by omega)
    have a2 : N.add .i64 (k + 1 + 1) 1 = k + 1 + 1 + 1 := add_id (by omega) (by omega)
    have a3 : N.add .i64 (k + 1 + 1 + 1) 1 = k + 1 + 1 + 1 + 1 := add_id (by omega) (by omega)
    have b2 : N.rem (k + 1 + 1) 3 = (k + 1 + 1) % 3 := rem_pos (by omega)
    have e : k + 1 + 1 + 1 + 1 = k + 4 := by omega
    simp only [ite_if]; (try simp only [let_eq, len_set]); simp only [set_set, rd_set hi, lt_d, len_d, cond_dec, i0, i1, if_true, a0, a1, a2, a3, b2, eq_d, next_id hi (by omega), e]
    rw [set_at]; rfl
  · simp only [lt_d, len_d, cond_dec]; rw [if_neg (by omega)]
theorem laws_heldLeafS_is {x : List Leaf} {k : Int} (h0 : 0 ≤ k) (hk : k ≤ 1000000000) (h : ok x) : laws_heldLeafS (markL mkLeafS 4 x k) k = some (k + 4 * x.length) := by
  have hl := h.1
  refine held_loop (B := 100000000000) (c := 4) (mk := mkLeafS) (xs := x) (by omega) (fun k i hi hi' hm h0 h1 => ?_) (fun q => ?_) h0 (by omega)
  · have i0 : (0 : Int) ≤ (i : Int) := by omega
    have i1 : (i : Int) < (x.length : Int) := by omega
    have a0 : N.add .i64 (k) 1 = k + 1 := add_id (by omega) (by omega)
    have a1 : N.add .i64 (k + 1) 1 = k + 1 + 1 := add_id (by omega) (by omega)
    have a2 : N.add .i64 (k + 1 + 1) 1 = k + 1 + 1 + 1 := add_id (by omega) (by omega)
    have a3 : N.add .i64 (k + 1 + 1 + 1) 1 = k + 1 + 1 + 1 + 1 := add_id (by omega) (by omega)
    have b2 : N.rem (k + 1 + 1) 3 = (k + 1 + 1) % 3 := rem_pos (by omega)
    have e : k + 1 + 1 + 1 + 1 = k + 4 := by omega
    simp only [ite_if]; simp only [lt_d, len_d, markL_len, cond_dec, i0, i1, if_true, rd_at _ i hi', hm, mkLeafS, a0, a1, a2, a3, b2, eq_d, ne_d, neB_d, next_id hi (by omega), e]
    simp
  · simp only [lt_d, len_d, markL_len, cond_dec]; rw [if_neg (by omega)]

end D
end Go.Sh
set_option linter.unusedVariables false
set_option linter.unusedSimpArgs false
set_option synthInstance.maxSize 100000
set_option maxHeartbeats 1000000
namespace Go.Sh
open Go Data
namespace D
/-! ### Hiding -/
theorem slices_Clone_Leaf_is {l : List Leaf} (h : ok l) : slices_Clone_Leaf l = some l := by
  have hl := h.1
  unfold slices_Clone_Leaf N.nilc
  rw [nite_pos (fitsN (by simp; omega) (by omega))]
  cases l with
  | nil => simp [N.isE, N.app]
  | cons x l => simp [N.isE, N.app]
def hide1 (out : List Leaf) (i : Int) : List Leaf := if 0 ≤ i ∧ i < (out.length : Int) then N.set out i (0, 0, true, (N.rd out i (0, 0, false, 0)).2.2.2) else out
def hideP (l : List Leaf) (at_ : List Int) : List Leaf := at_.foldl hide1 l
theorem hide1_len (out : List Leaf) (i : Int) : (hide1 out i).length = out.length := by unfold hide1; split <;> simp [N.set]
theorem hide_len : ∀ (a : List Int) (out : List Leaf), (a.foldl hide1 out).length = out.length
  | [], _ => rfl
  | i :: a, out => by rw [List.foldl_cons, hide_len a, hide1_len]
/-- the seals stay -/
theorem hide1_seal (out : List Leaf) (i j : Int) : (N.rd (hide1 out i) j (0, 0, false, 0)).2.2.2 = (N.rd out j (0, 0, false, 0)).2.2.2 := by
  unfold hide1
  split
  · rename_i h
    simp only [N.rd, N.set, List.getD_eq_getElem?_getD, List.getElem?_set]
    split
    · rename_i e
      rw [if_pos (by omega)]
      simp [e]
    · rfl
  · rfl
theorem hide_seal : ∀ (a : List Int) (out : List Leaf) (j : Int), (N.rd (a.foldl hide1 out) j (0, 0, false, 0)).2.2.2 = (N.rd out j (0, 0, false, 0)).2.2.2
  | [], _, _ => rfl
  | i :: a, out, j => by rw [List.foldl_cons, hide_seal a, hide1_seal]
theorem impl_HideLeaves_is {l : List Leaf} {a : List Int} (h : ok l) (ha : ok a) : impl_HideLeaves l a = some (hideP l a) := by
  have hl := h.1; have hl2 := ha.1
  unfold impl_HideLeaves
  rw [slices_Clone_Leaf_is h, bind_some']
  refine loop_upto (r := hideP l a) a.length (fun k (out : List Leaf) => ((k : Int), out)) (fun k => (a.take k).foldl hide1 l) (fun k hk => ?_) ?_
  · have h0 : (0 : Int) ≤ (k : Int) := by omega
    have h1 : (k : Int) < (a.length : Int) := by omega
    simp only [ite_if]; simp only [lt_d, ge_d, len_d, cond_dec, h0, h1, if_true, rd_at a k hk, next_id hk (by omega)]
    rw [List.take_succ_eq_append_getElem hk, List.foldl_append, List.foldl_cons, List.foldl_nil]
    generalize (a.take k).foldl hide1 l = out
    unfold hide1
    by_cases c1 : 0 ≤ a[k] <;> by_cases c2 : a[k] < (out.length : Int) <;> simp [c1, c2]
  · simp only [lt_d, len_d, cond_dec, List.take_length]; rw [if_neg (by omega)]; rfl
theorem spec_HideLeaves_is {l : List Leaf} {a : List Int} (h : ok l) (ha : ok a) : spec_HideLeaves l a = some (hideP l a) := by
  have hl := h.1; have hl2 := ha.1
  unfold spec_HideLeaves
  rw [nite_pos (fitsN (by simp; omega) (by omega))]
  refine loop_upto (r := hideP l a) a.length (fun k (out : List Leaf) => ((k : Int), out)) (fun k => (a.take k).foldl hide1 l) (fun k hk => ?_) ?_
  · have h0 : (0 : Int) ≤ (k : Int) := by omega
    have h1 : (k : Int) < (a.length : Int) := by omega
    have hs := hide_seal (a.take k) l
    have hn := hide_len (a.take k) l
    simp only [ite_if]; simp only [lt_d, ge_d, len_d, cond_dec, h0, h1, if_true, rd_at a k hk, spec_l1In_is, bind_some', sub_id (a := (l.length : Int)) (b := 1) (by omega) (by omega), next_id hk (by omega), ← hs a[k]]
    rw [List.take_succ_eq_append_getElem hk, List.foldl_append, List.foldl_cons, List.foldl_nil]
    rw [← hn]
    generalize (a.take k).foldl hide1 l = out
    unfold hide1
    by_cases c1 : 0 ≤ a[k] <;> by_cases c2 : a[k] < (out.length : Int)
    · rw [if_pos (by omega), if_pos (by omega)]; simp [c1, c2]
    · rw [if_neg (by omega), if_neg (by omega)]
    · rw [if_neg (by omega), if_neg (by omega)]
    · rw [if_neg (by omega), if_neg (by omega)]
  · simp only [lt_d, len_d, cond_dec, List.take_length]; rw [if_neg (by omega)]; rfl
theorem hide_ok {l : List Leaf} {a : List Int} (h : ok l) : ok (hideP l a) := by
  refine ⟨by have := h.1; have := hide_len a l; unfold hideP; omega, ?_⟩
  have key : ∀ (a : List Int) (out : List Leaf), (∀ x ∈ out, ok x) → ∀ x ∈ a.foldl hide1 out, ok x := by
    intro a
    induction a with
    | nil => intro out ho; exact ho
    | cons i a ih =>
      intro out ho
      rw [List.foldl_cons]
      refine ih _ fun x hx => ?_
      unfold hide1 at hx
      split at hx
      · rename_i hi
        simp only [N.set] at hx
        rcases List.mem_or_eq_of_mem_set hx with hx | hx
        · exact ho x hx
        · subst hx
          have : (N.rd out i (0, 0, false, 0)) ∈ out := by
            obtain ⟨k, rfl⟩ : ∃ k : Nat, i = (k : Int) := ⟨i.toNat, by omega⟩
            rw [rd_at out k (by omega)]; exact List.getElem_mem _
          have := (ho _ this).2.2.2
          exact ⟨⟨by show (-9223372036854775808 : Int) ≤ 0; omega, by show (0 : Int) < 9223372036854775808; omega⟩, ⟨by show (-9223372036854775808 : Int) ≤ 0; omega, by show (0 : Int) < 9223372036854775808; omega⟩, trivial, this⟩
      · exact ho x hx
  exact key a l h.2
theorem FnExactHideLeaves_true (l : List Leaf) (a : List Int) (h : bd l) (ha : bd a) : laws_FnExactHideLeaves l a = some true := by
  unfold laws_FnExactHideLeaves
  rw [gt_d, len_d, cond_dec]
  split
  · rfl
  have hka : ok a := ⟨by omega, ha.2⟩
  obtain ⟨s, e, hs⟩ := laws_szLeafS_is l 1048576 h (by omega) (by omega)
  rw [e, bind_some', lt_d, cond_dec]
  rcases hs with hs | ⟨hk, h0, h1⟩
  · rw [if_pos hs]
  · rw [if_neg (by omega)]
    have hr := hide_ok (a := a) hk
    have hl1 := hk.1; have hl2 := hka.1
    simp only [laws_toLeafS_is _ hk, laws_toIntS_is _ hka, bind_some', spec_HideLeaves_is hk hka, impl_HideLeaves_is hk hka, laws_eqLeafS_is _ _ hk, laws_eqLeafS_is _ _ hr, laws_eqIntS_is _ _ hka, laws_markLeafS_is (k := 1) (by omega) (by omega) hk, laws_markLeafS_is (k := 1) (by omega) (by omega) hr, laws_markIntS_is (k := 1 + 4 * (l.length : Int)) (by omega) (by omega) hka, laws_heldLeafS_is (k := 1) (by omega) (by omega) hr, ne_d, neB_d, not_d, lt_d, cond_dec]
    have e1 : ¬ (1 + 4 * (l.length : Int) + 1 * (a.length : Int) < 0) := by omega
    have e2 : ¬ (1 + 4 * ((hideP l a).length : Int) < 0) := by omega
    simp only [e1, e2, not_true_eq_false, if_false, decide_true, decide_false]
end D
end Go.Sh
set_option linter.unusedVariables false
set_option linter.unusedSimpArgs false
set_option synthInstance.maxSize 100000
set_option maxHeartbeats 1000000
namespace Go.Sh
open Go Data
namespace D
end D
end Go.Sh
set_option linter.unusedVariables false
set_option linter.unusedSimpArgs false
set_option synthInstance.maxSize 100000
set_option maxHeartbeats 1000000
namespace Go.Sh
open Go Data
namespace D
end D
end Go.Sh
