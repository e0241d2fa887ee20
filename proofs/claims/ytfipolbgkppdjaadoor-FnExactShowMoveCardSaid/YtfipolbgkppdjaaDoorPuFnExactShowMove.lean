/- The native forms of the functions that FnExactShowMove reaches, and their pure laws: FnExactShowMove is true for every input of bounded parts. No condition beyond the bounds that every input keeps. -/
import Derived.Test.YtfipolbgkppdjaaDoorSh9
set_option linter.unusedVariables false
set_option maxRecDepth 100000
set_option maxHeartbeats 4000000
namespace Go.Sh
open Go
namespace N
def nostr : ByteArray := ByteArray.empty
def lit (l : List UInt8) : ByteArray := ⟨l.toArray⟩
def let_ {α R : Type} (x : α) (f : α → Option R) : Option R := f x
end N
namespace D
abbrev Address : Type := Int × Int × Int
abbrev Shown : Type := Int × Address
abbrev Resource : Type := Int × (List Int) × Address
noncomputable def laws_toAddress (x0 : Address) : Option (Address) :=
  some x0

noncomputable def spec_l1In (x0 : Int) (x1 : Int) (x2 : Int) : Option (Bool) :=
  N.cond (N.ge x0 x1)
    (some (N.le x0 x2))
    (some false)

noncomputable def spec_IsAddress (x0 : Address) : Option (Bool) :=
  N.bind (spec_l1In x0.1 1 9) fun r1 =>
    N.cond r1
      (
        N.bind (spec_l1In x0.2.1 0 99) fun r2 =>
          N.cond r2
            (
              N.bind (spec_l1In x0.2.2 0 99) fun r3 =>
                some r3)
            (some false))
      (some false)

noncomputable def spec_FormatInt (x0 : Int) : Option (ByteArray) :=
  N.cond (N.eq x0 0)
    (some (N.lit [48]))
    (
      loopF (fun (s1 : ByteArray × Int) =>
          N.cond (N.ne s1.2 0)
            (
              N.cond (N.lt (N.rem s1.2 10) 0)
                (
                  N.ite (N.catFits (N.ofBytes [N.conv .u8 (N.add .i64 48 (N.sub .i64 0 (N.rem s1.2 10)))]) s1.1)
                    (some (.inl (N.cat (N.ofBytes [N.conv .u8 (N.add .i64 48 (N.sub .i64 0 (N.rem s1.2 10)))]) s1.1, N.quo .i64 s1.2 10)))
                    none)
                (
                  N.ite (N.catFits (N.ofBytes [N.conv .u8 (N.add .i64 48 (N.rem s1.2 10))]) s1.1)
                    (some (.inl (N.cat (N.ofBytes [N.conv .u8 (N.add .i64 48 (N.rem s1.2 10))]) s1.1, N.quo .i64 s1.2 10)))
                    none))
            (
              Option.map Sum.inr
                (
                  N.cond (N.lt x0 0)
                    (
                      N.ite (N.catFits (N.lit [45]) s1.1)
                        (some (N.cat (N.lit [45]) s1.1))
                        none)
                    (some s1.1))))
        (N.nostr, x0))

noncomputable def spec_AddressText (x0 : Address) : Option (ByteArray) :=
  N.bind (spec_IsAddress x0) fun r1 =>
    N.cond (N.not r1)
      (some N.nostr)
      (
        N.bind (spec_FormatInt x0.1) fun r2 =>
          N.ite (N.catFits r2 (N.lit [47]))
            (
              N.bind (spec_FormatInt x0.2.1) fun r3 =>
                N.ite (N.catFits (N.cat r2 (N.lit [47])) r3)
                  (
                    N.cond (N.ne x0.2.2 0)
                      (
                        N.ite (N.catFits (N.cat (N.cat r2 (N.lit [47])) r3) (N.lit [63]))
                          (
                            N.bind (spec_FormatInt x0.2.2) fun r4 =>
                              N.ite (N.catFits (N.cat (N.cat (N.cat r2 (N.lit [47])) r3) (N.lit [63])) r4)
                                (some (N.cat (N.cat (N.cat (N.cat r2 (N.lit [47])) r3) (N.lit [63])) r4))
                                none)
                          none)
                      (some (N.cat (N.cat r2 (N.lit [47])) r3)))
                  none)
            none)

noncomputable def spec_ShownText (x0 : Shown) : Option (ByteArray) :=
  N.bind (spec_l1In x0.1 0 2000) fun r1 =>
    N.cond (N.not r1)
      (some N.nostr)
      (
        N.bind (spec_IsAddress x0.2) fun r2 =>
          N.cond (N.not r2)
            (some N.nostr)
            (
              N.bind (spec_FormatInt x0.1) fun r3 =>
                N.ite (N.catFits (N.lit [97, 114, 99, 104, 105, 118, 101, 47]) r3)
                  (
                    N.ite (N.catFits (N.cat (N.lit [97, 114, 99, 104, 105, 118, 101, 47]) r3) (N.lit [47]))
                      (
                        N.bind (spec_AddressText x0.2) fun r4 =>
                          N.ite (N.catFits (N.cat (N.cat (N.lit [97, 114, 99, 104, 105, 118, 101, 47]) r3) (N.lit [47])) r4)
                            (some (N.cat (N.cat (N.cat (N.lit [97, 114, 99, 104, 105, 118, 101, 47]) r3) (N.lit [47])) r4))
                            none)
                      none)
                  none))

noncomputable def impl_InRange (x0 : Int) (x1 : Int) (x2 : Int) : Option (Bool) :=
  N.cond (N.le x1 x0)
    (some (N.le x0 x2))
    (some false)

noncomputable def impl_IsAddress (x0 : Address) : Option (Bool) :=
  N.bind (impl_InRange x0.1 1 9) fun r1 =>
    N.cond r1
      (
        N.bind (impl_InRange x0.2.1 0 99) fun r2 =>
          N.cond r2
            (
              N.bind (impl_InRange x0.2.2 0 99) fun r3 =>
                some r3)
            (some false))
      (some false)

noncomputable def strconv_Itoa (x0 : Int) : Option (ByteArray) :=
  N.itoa x0

noncomputable def impl_FormatInt (x0 : Int) : Option (ByteArray) :=
  N.bind (strconv_Itoa x0) fun r1 =>
    some r1

noncomputable def impl_AddressText (x0 : Address) : Option (ByteArray) :=
  N.bind (impl_IsAddress x0) fun r1 =>
    N.cond (N.not r1)
      (some N.nostr)
      (
        N.bind (impl_FormatInt x0.1) fun r2 =>
          N.ite (N.catFits r2 (N.lit [47]))
            (
              N.bind (impl_FormatInt x0.2.1) fun r3 =>
                N.ite (N.catFits (N.cat r2 (N.lit [47])) r3)
                  (
                    N.cond (N.ne x0.2.2 0)
                      (
                        N.bind (impl_FormatInt x0.2.2) fun r4 =>
                          N.ite (N.catFits (N.lit [63]) r4)
                            (
                              N.ite (N.catFits (N.cat (N.cat r2 (N.lit [47])) r3) (N.cat (N.lit [63]) r4))
                                (some (N.cat (N.cat (N.cat r2 (N.lit [47])) r3) (N.cat (N.lit [63]) r4)))
                                none)
                            none)
                      (some (N.cat (N.cat r2 (N.lit [47])) r3)))
                  none)
            none)

noncomputable def impl_ShownText (x0 : Shown) : Option (ByteArray) :=
  N.bind (impl_InRange x0.1 0 2000) fun r1 =>
    N.cond (N.not r1)
      (some N.nostr)
      (
        N.bind (impl_IsAddress x0.2) fun r2 =>
          N.cond (N.not r2)
            (some N.nostr)
            (
              N.bind (impl_FormatInt x0.1) fun r3 =>
                N.ite (N.catFits (N.lit [97, 114, 99, 104, 105, 118, 101, 47]) r3)
                  (
                    N.ite (N.catFits (N.cat (N.lit [97, 114, 99, 104, 105, 118, 101, 47]) r3) (N.lit [47]))
                      (
                        N.bind (impl_AddressText x0.2) fun r4 =>
                          N.ite (N.catFits (N.cat (N.cat (N.lit [97, 114, 99, 104, 105, 118, 101, 47]) r3) (N.lit [47])) r4)
                            (some (N.cat (N.cat (N.cat (N.lit [97, 114, 99, 104, 105, 118, 101, 47]) r3) (N.lit [47])) r4))
                            none)
                      none)
                  none))

noncomputable def laws_szIntS (x0 : List Int) (x1 : Int) : Option (Int) :=
  N.cond (N.lt (N.sub .i64 x1 (N.len x0)) 0)
    (some (-1))
    (some (N.sub .i64 x1 (N.len x0)))

noncomputable def laws_szResource (x0 : Resource) (x1 : Int) : Option (Int) :=
  N.bind (laws_szIntS x0.2.1 x1) fun r1 =>
    N.cond (N.lt r1 0)
      (some (-1))
      (some r1)

noncomputable def laws_toIntS (x0 : List Int) : Option (List Int) :=
  N.ite (0 ≤ N.len x0)
    (
      N.ite (N.room (N.len x0) 8)
        (
          loopF (fun (s1 : Int × List Int) =>
              N.cond (N.lt s1.1 (N.len x0))
                (
                  N.ite (0 ≤ s1.1)
                    (
                      N.ite (s1.1 < N.len x0)
                        (
                          N.ite (0 ≤ s1.1)
                            (
                              N.ite (s1.1 < N.len s1.2)
                                (some (.inl (N.add .i64 s1.1 1, N.set s1.2 s1.1 (N.rd x0 s1.1 0))))
                                none)
                            none)
                        none)
                    none)
                (some (.inr s1.2)))
            (0, N.rep (N.len x0) (0 : Int)))
        none)
    none

noncomputable def laws_toResource (x0 : Resource) : Option (Int × (List Int) × Int × Int × Int) :=
  N.bind (laws_toIntS x0.2.1) fun r1 =>
    N.bind (laws_toAddress x0.2.2) fun r2 =>
      some (x0.1, r1, r2.1, r2.2.1, r2.2.2)

noncomputable def spec_l5Bytes (x0 : List Int) : Option (Bool) :=
  loopF (fun (s1 : Int) =>
      N.cond (N.lt s1 (N.len x0))
        (
          N.ite (0 ≤ s1)
            (
              N.ite (s1 < N.len x0)
                (
                  N.bind (spec_l1In (N.rd x0 s1 0) 0 255) fun r1 =>
                    N.cond (N.not r1)
                      (some (.inr false))
                      (some (.inl (N.add .i64 s1 1))))
                none)
            none)
        (some (.inr true)))
    0

noncomputable def spec_IsResource (x0 : Resource) : Option (Bool) :=
  N.bind (spec_l1In x0.1 1 4) fun r1 =>
    N.cond (N.not r1)
      (some false)
      (
        N.bind (spec_l5Bytes x0.2.1) fun r2 =>
          N.cond (N.not r2)
            (some false)
            (
              N.cond (N.gt (N.len x0.2.1) 6)
                (some false)
                (
                  N.cond (N.eq x0.1 3)
                    (
                      N.bind (spec_IsAddress x0.2.2) fun r3 =>
                        N.cond r3
                          (some (N.eq (N.len x0.2.1) 0))
                          (some false))
                    (
                      N.cond (N.both (N.eq x0.2.2.1 0) (N.both (N.eq x0.2.2.2.1 0) (N.eq x0.2.2.2.2 0)))
                        (
                          N.cond (N.ne x0.1 4)
                            (some true)
                            (some (N.eq (N.len x0.2.1) 0)))
                        (some false)))))

noncomputable def spec_ShowMove (x0 : Resource) (x1 : Int) : Option (ByteArray) :=
  N.bind (spec_IsResource x0) fun r1 =>
    N.cond (N.not r1)
      (some N.nostr)
      (
        N.cond (N.ne x0.1 3)
          (some N.nostr)
          (
            N.bind (spec_ShownText (x1, x0.2.2)) fun r2 =>
              some r2))

noncomputable def impl_allIn (x0 : List Int) (x1 : Int) (x2 : Int) : Option (Bool) :=
  loopF (fun (s1 : Int) =>
      N.cond (N.lt s1 (N.len x0))
        (
          N.ite (0 ≤ s1)
            (
              N.ite (s1 < N.len x0)
                (
                  N.bind (impl_InRange (N.rd x0 s1 0) x1 x2) fun r1 =>
                    N.cond (N.not r1)
                      (some (.inr false))
                      (some (.inl (N.add .i64 s1 1))))
                none)
            none)
        (some (.inr true)))
    0

noncomputable def impl_IsResource (x0 : Resource) : Option (Bool) :=
  N.cond (N.eq x0.1 1)
    (
      N.cond (N.eq x0.1 1)
        (
          N.cond (N.le (N.len x0.2.1) 6)
            (
              N.bind (impl_allIn x0.2.1 0 255) fun r1 =>
                N.cond r1
                  (some (N.both (N.eq x0.2.2.1 0) (N.both (N.eq x0.2.2.2.1 0) (N.eq x0.2.2.2.2 0))))
                  (some false))
            (some false))
        (
          N.cond (N.eq x0.1 3)
            (
              N.cond (N.eq (N.len x0.2.1) 0)
                (
                  N.bind (impl_IsAddress x0.2.2) fun r2 =>
                    some r2)
                (some false))
            (
              N.cond (N.eq x0.1 4)
                (
                  N.cond (N.eq (N.len x0.2.1) 0)
                    (some (N.both (N.eq x0.2.2.1 0) (N.both (N.eq x0.2.2.2.1 0) (N.eq x0.2.2.2.2 0))))
                    (some false))
                (some false))))
    (
      N.cond (N.eq x0.1 2)
        (
          N.cond (N.le (N.len x0.2.1) 6)
            (
              N.bind (impl_allIn x0.2.1 0 255) fun r3 =>
                N.cond r3
                  (some (N.both (N.eq x0.2.2.1 0) (N.both (N.eq x0.2.2.2.1 0) (N.eq x0.2.2.2.2 0))))
                  (some false))
            (some false))
        (
          N.cond (N.eq x0.1 3)
            (
              N.cond (N.eq (N.len x0.2.1) 0)
                (
                  N.bind (impl_IsAddress x0.2.2) fun r4 =>
                    some r4)
                (some false))
            (
              N.cond (N.eq x0.1 4)
                (
                  N.cond (N.eq (N.len x0.2.1) 0)
                    (some (N.both (N.eq x0.2.2.1 0) (N.both (N.eq x0.2.2.2.1 0) (N.eq x0.2.2.2.2 0))))
                    (some false))
                (some false))))

noncomputable def impl_ShowMove (x0 : Resource) (x1 : Int) : Option (ByteArray) :=
  N.bind (impl_IsResource x0) fun r1 =>
    N.cond (N.not r1)
      (some N.nostr)
      (
        N.cond (N.ne x0.1 3)
          (some N.nostr)
          (
            N.bind (impl_ShownText (x1, x0.2.2)) fun r2 =>
              some r2))

noncomputable def laws_eqIntS (x0 : List Int) (x1 : List Int) : Option (Bool) :=
  N.cond (N.ne (N.len x0) (N.len x1))
    (some false)
    (
      loopF (fun (s1 : Int) =>
          N.cond (N.lt s1 (N.len x0))
            (
              N.ite (0 ≤ s1)
                (
                  N.ite (s1 < N.len x0)
                    (
                      N.ite (0 ≤ s1)
                        (
                          N.ite (s1 < N.len x1)
                            (
                              N.cond (N.ne (N.rd x0 s1 0) (N.rd x1 s1 0))
                                (some (.inr false))
                                (some (.inl (N.add .i64 s1 1))))
                            none)
                        none)
                    none)
                none)
            (some (.inr true)))
        0)

noncomputable def laws_eqAddress (x0 : Address) (x1 : Address) : Option (Bool) :=
  N.cond (N.ne x0.1 x1.1)
    (some false)
    (
      N.cond (N.ne x0.2.1 x1.2.1)
        (some false)
        (
          N.cond (N.ne x0.2.2 x1.2.2)
            (some false)
            (some true)))

noncomputable def laws_eqResource (x0 : Resource) (x1 : Resource) : Option (Bool) :=
  N.cond (N.ne x0.1 x1.1)
    (some false)
    (
      N.bind (laws_eqIntS x0.2.1 x1.2.1) fun r1 =>
        N.cond (N.not r1)
          (some false)
          (
            N.bind (laws_eqAddress x0.2.2 x1.2.2) fun r2 =>
              N.cond (N.not r2)
                (some false)
                (some true)))

noncomputable def laws_FnExactShowMove (x0 : Resource) (x1 : Int) : Option (Bool) :=
  N.bind (laws_szResource x0 1048576) fun r1 =>
    N.cond (N.lt r1 0)
      (some true)
      (
        N.bind (laws_toResource x0) fun r2 =>
          N.bind (spec_ShowMove (r2.1, r2.2.1, (r2.2.2.1, r2.2.2.2.1, r2.2.2.2.2)) x1) fun r3 =>
            N.bind (laws_toResource x0) fun r4 =>
              N.bind (impl_ShowMove (r4.1, r4.2.1, (r4.2.2.1, r4.2.2.2.1, r4.2.2.2.2)) x1) fun r5 =>
                N.cond (N.neS r5 r3)
                  (some false)
                  (
                    N.bind (laws_toResource x0) fun r6 =>
                      N.bind (laws_eqResource (r4.1, r4.2.1, (r4.2.2.1, r4.2.2.2.1, r4.2.2.2.2)) (r6.1, r6.2.1, (r6.2.2.1, r6.2.2.2.1, r6.2.2.2.2))) fun r7 =>
                        N.cond (N.not r7)
                          (some false)
                          (some true)))

end D
end Go.Sh
set_option linter.unusedVariables false
set_option linter.unusedSimpArgs false
namespace Go.Sh
open Go
/-! ## Loops -/
theorem loopN_det {S R : Type} {step : S → Option (S ⊕ R)} : ∀ {n m : Nat} {s : S} {a b : R}, loopN step n s = some a → loopN step m s = some b → a = b
  | 0, _, _, _, _, h, _ => by simp [loopN] at h
  | _ + 1, 0, _, _, _, _, h => by simp [loopN] at h
  | n + 1, m + 1, s, a, b, h1, h2 => by
    simp only [loopN] at h1 h2
    split at h1
    · cases h1
    · rename_i s' hs; rw [hs] at h2; exact loopN_det h1 h2
    · rename_i r hr; rw [hr] at h2; simp at h1 h2; rw [← h1, ← h2]

theorem loopF_of {S R : Type} {step : S → Option (S ⊕ R)} {s : S} {n : Nat} {r : R} (h : loopN step n s = some r) : loopF step s = some r := by
  have hx : ∃ n r, loopN step n s = some r := ⟨n, r, h⟩
  unfold loopF
  rw [dif_pos hx]
  obtain ⟨m, hm⟩ := Classical.choose_spec hx |> fun h => (⟨_, Classical.choose_spec h⟩ : ∃ v, loopN step (Classical.choose hx) s = some v)
  have := Classical.choose_spec (Classical.choose_spec hx)
  rw [loopN_det this h]

theorem loopF_inr {S R : Type} {step : S → Option (S ⊕ R)} {s : S} {r : R} (h : step s = some (.inr r)) : loopF step s = some r :=
  loopF_of (n := 1) (by simp [loopN, h])

theorem loopF_inl {S R : Type} {step : S → Option (S ⊕ R)} {s s' : S} (h : step s = some (.inl s')) : loopF step s = loopF step s' := by
  by_cases hx : ∃ n r, loopN step n s' = some r
  · obtain ⟨n, r, hn⟩ := hx
    rw [loopF_of hn, loopF_of (n := n + 1) (r := r) (by simp [loopN, h, hn])]
  · have hy : ¬ ∃ n r, loopN step n s = some r := by
      rintro ⟨n, r, hn⟩
      cases n with
      | zero => simp [loopN] at hn
      | succ n => simp only [loopN, h] at hn; exact hx ⟨n, r, hn⟩
    unfold loopF
    rw [dif_neg hx, dif_neg hy]

/-! ## Words -/

section
variable {R α β : Type}
@[simp] theorem bind_some' (x : β) (f : β → Option R) : N.bind (some x) f = f x := rfl

@[simp] theorem cond_true (x y : Option R) : N.cond true x y = x := rfl

@[simp] theorem cond_false (x y : Option R) : N.cond false x y = y := rfl

theorem cond_dec (p : Prop) [Decidable p] (x y : Option R) : N.cond (decide p) x y = if p then x else y := by unfold N.cond; by_cases h : p <;> simp [h]

theorem ite_if (c : Prop) [Decidable c] (x y : Option R) : N.ite c x y = if c then x else y := rfl

theorem nite_pos {c : Prop} [Decidable c] (h : c) (x y : Option R) : N.ite c x y = x := if_pos h

theorem lt_d (a b : Int) : N.lt a b = decide (a < b) := rfl

theorem le_d (a b : Int) : N.le a b = decide (a ≤ b) := rfl

theorem gt_d (a b : Int) : N.gt a b = decide (b < a) := rfl

theorem ge_d (a b : Int) : N.ge a b = decide (b ≤ a) := rfl

theorem eq_d (a b : Int) : N.eq a b = decide (a = b) := rfl

theorem neS_d (a b : ByteArray) : N.neS a b = decide (¬ a = b) := by
  unfold N.neS
  by_cases h : a = b
  · subst h; simp
  · have h2 : ¬ a.toList = b.toList := fun e => by
      rw [ByteArray.toList_eq, ByteArray.toList_eq] at e
      obtain ⟨x⟩ := a
      obtain ⟨y⟩ := b
      exact h (congrArg ByteArray.mk (Array.toList_inj.1 e))
    have h3 : (a.toList == b.toList) = false := by rw [Bool.eq_false_iff]; intro e; exact h2 (eq_of_beq e)
    rw [h3]; simp [h]

theorem ne_d (a b : Int) : N.ne a b = decide (¬ a = b) := by
  unfold N.ne; by_cases h : a = b <;> simp [h]

theorem len_d (xs : List α) : N.len xs = (xs.length : Int) := by simp [N.len]

theorem rd_at (xs : List α) (k : Nat) (hk : k < xs.length) (d : α) : N.rd xs (k : Int) d = xs[k] := by
  simp [N.rd, List.getD, hk]

theorem wrap_id {n : Int} (h1 : -9223372036854775808 ≤ n) (h2 : n < 9223372036854775808) : IntKind.i64.wrap n = n := by
  have e1 : ((2 : Int) ^ IntKind.i64.bits) = 18446744073709551616 := by decide
  have e2 : ((2 : Int) ^ (IntKind.i64.bits - 1)) = 9223372036854775808 := by decide
  have e3 : IntKind.i64.signed = true := rfl
  unfold IntKind.wrap
  rw [e1, e2, e3]
  simp only [Bool.true_and, decide_eq_true_eq]
  split <;> omega

theorem add_id {a b : Int} (h1 : -9223372036854775808 ≤ a + b) (h2 : a + b < 9223372036854775808) : N.add .i64 a b = a + b := wrap_id h1 h2

theorem sub_id {a b : Int} (h1 : -9223372036854775808 ≤ a - b) (h2 : a - b < 9223372036854775808) : N.sub .i64 a b = a - b := wrap_id h1 h2

theorem next_id {k n : Nat} (hk : k < n) (hn : (n : Int) < 9223372036854775808) : N.add .i64 (k : Int) 1 = ((k + 1 : Nat) : Int) := by
  rw [add_id (by omega) (by omega)]; omega

end
end Go.Sh
set_option linter.unusedVariables false
set_option linter.unusedSimpArgs false
namespace Go.Sh
open Go
/-! ## Bounds of data -/
class Data (α : Type) where
  bd : α → Prop
  ok : α → Prop
  le : ∀ x, ok x → bd x

class Flat (α : Type) [Data α] where
  fl : ∀ x : α, Data.bd x → Data.ok x

open Data
instance : Data Int := ⟨fun x => -9223372036854775808 ≤ x ∧ x < 9223372036854775808, fun x => -9223372036854775808 ≤ x ∧ x < 9223372036854775808, fun _ h => h⟩

instance : Data Bool := ⟨fun _ => True, fun _ => True, fun _ h => h⟩

instance : Data ByteArray := ⟨fun s => s.size ≤ 4611686018427387904, fun s => s.size ≤ 4611686018427387904, fun _ h => h⟩

instance {α β : Type} [Data α] [Data β] : Data (α × β) := ⟨fun x => bd x.1 ∧ bd x.2, fun x => ok x.1 ∧ ok x.2, fun x h => ⟨le _ h.1, le _ h.2⟩⟩

instance {α : Type} [Data α] : Data (List α) := ⟨fun xs => xs.length ≤ 4611686018427387904 ∧ ∀ x ∈ xs, bd x, fun xs => xs.length ≤ 1048576 ∧ ∀ x ∈ xs, ok x, fun xs h => ⟨by omega, fun x hx => le x (h.2 x hx)⟩⟩

instance : Flat Int := ⟨fun _ h => h⟩

instance : Flat Bool := ⟨fun _ h => h⟩

instance : Flat ByteArray := ⟨fun _ h => h⟩

instance {α β : Type} [Data α] [Data β] [Flat α] [Flat β] : Flat (α × β) := ⟨fun x h => ⟨Flat.fl _ h.1, Flat.fl _ h.2⟩⟩

section
variable {α : Type} [Data α]
theorem Data.ok.sub {xs ys : List α} (h : ok xs) (hs : ys.Sublist xs) : ok ys := ⟨Nat.le_trans hs.length_le h.1, fun x hx => h.2 x (hs.subset hx)⟩

end
/-! ## Words, once more -/

section
variable {R α β : Type}
theorem neB_d (a b : Bool) : N.neB a b = decide (¬ a = b) := by cases a <;> cases b <;> rfl

theorem not_d (p : Prop) [Decidable p] : N.not (decide p) = decide (¬ p) := by unfold N.not; by_cases h : p <;> simp [h]

theorem both_d (p q : Prop) [Decidable p] [Decidable q] : N.both (decide p) (decide q) = decide (p ∧ q) := by unfold N.both; by_cases h : p <;> by_cases h' : q <;> simp [h, h']

theorem cond_not (b : Bool) (x y : Option R) : N.cond (N.not b) x y = N.cond b y x := by cases b <;> rfl

/-! ## Copies -/
theorem set_grow {xs ys : List α} {k : Nat} (hk : k < xs.length) (hl : ys.length = xs.length) (h : ys.take k = xs.take k) : (ys.set k xs[k]).take (k + 1) = xs.take (k + 1) := by
  apply List.ext_getElem
  · simp [hl]
  · intro i h1 h2
    simp only [List.length_take, List.length_set] at h1 h2
    simp only [List.getElem_take, List.getElem_set]
    split
    · rename_i e; subst e; rfl
    · have hi : i < k := by omega
      have := congrArg (fun l => l[i]?) h
      simp [List.getElem?_take, hi] at this
      rw [List.getElem?_eq_getElem (by omega), List.getElem?_eq_getElem (by omega)] at this
      simpa using this

/-- an element of a list that is copied -/
def toStep (xs : List α) (d : α) (f : α → Option α) (s1 : Int × List α) : Option ((Int × List α) ⊕ List α) :=
  N.cond (N.lt s1.1 (N.len xs)) (N.ite (0 ≤ s1.1) (N.ite (s1.1 < N.len xs) (N.bind (f (N.rd xs s1.1 d)) fun r1 => N.ite (0 ≤ s1.1) (N.ite (s1.1 < N.len s1.2) (some (.inl (N.add .i64 s1.1 1, N.set s1.2 s1.1 r1))) none) none) none) none) (some (.inr s1.2))

theorem toLoop {xs : List α} {d : α} {f : α → Option α} (hf : ∀ x ∈ xs, f x = some x) (hs : xs.length ≤ 1048576) : loopF (toStep xs d f) (0, N.rep (N.len xs) d) = some xs := by
  have key : ∀ (m k : Nat) (ys : List α), k + m = xs.length → ys.length = xs.length → ys.take k = xs.take k → loopF (toStep xs d f) ((k : Int), ys) = some xs := by
    intro m
    induction m with
    | zero =>
      intro k ys hk hl ht
      refine loopF_inr ?_
      have : ys = xs := by
        rw [show k = xs.length by omega] at ht
        rw [List.take_length, ← hl, List.take_length] at ht
        exact ht
      subst this
      simp only [toStep, lt_d, len_d, cond_dec]
      rw [if_neg (by omega)]
    | succ m ih =>
      intro k ys hk hl ht
      have hlt : k < xs.length := by omega
      rw [loopF_inl (s' := (((k + 1 : Nat) : Int), ys.set k xs[k])) ?_]
      · exact ih (k + 1) _ (by omega) (by simp [hl]) (set_grow hlt hl ht)
      · simp only [toStep, ite_if]; simp only [lt_d, len_d, cond_dec]
        rw [if_pos (by omega), if_pos (by omega), if_pos (by omega), rd_at xs k hlt, hf _ (List.getElem_mem hlt), bind_some', if_pos (by omega), if_pos (by omega), next_id hlt (by omega)]
        rfl
  have := key xs.length 0 (N.rep (N.len xs) d) (by omega) (by simp [N.rep, N.len]) (by simp)
  simpa using this

theorem toS_is {xs : List α} {bytes : Nat} {d : α} {f : α → Option α} (hb : bytes ≤ 10000) (hf : ∀ x ∈ xs, f x = some x) (hs : xs.length ≤ 1048576) :
    N.ite (0 ≤ N.len xs) (N.ite (N.room (N.len xs) bytes) (loopF (toStep xs d f) (0, N.rep (N.len xs) d)) none) none = some xs := by
  rw [nite_pos (by simp [N.len]), nite_pos, toLoop hf hs]
  unfold N.room N.len
  have : (xs.length : Int) * bytes ≤ 1048576 * 10000 := Int.mul_le_mul (by omega) (by omega) (by omega) (by omega)
  omega

/-! ## Comparing -/
def eqStep (xs ys : List α) (d : α) (f : α → α → Option Bool) (s1 : Int) : Option (Int ⊕ Bool) :=
  N.cond (N.lt s1 (N.len xs)) (N.ite (0 ≤ s1) (N.ite (s1 < N.len xs) (N.ite (0 ≤ s1) (N.ite (s1 < N.len ys) (N.bind (f (N.rd xs s1 d) (N.rd ys s1 d)) fun r1 => N.cond (N.not r1) (some (.inr false)) (some (.inl (N.add .i64 s1 1)))) none) none) none) none) (some (.inr true))

theorem eqLoop [DecidableEq α] {xs ys : List α} {d : α} {f : α → α → Option Bool} {r : α → α → Bool} (hf : ∀ x ∈ xs, ∀ y ∈ ys, f x y = some (r x y)) (hs : xs.length ≤ 4611686018427387904) (hl : xs.length = ys.length) :
    loopF (eqStep xs ys d f) 0 = some ((List.zip xs ys).all fun p => r p.1 p.2) := by
  have key : ∀ (m k : Nat), k + m = xs.length → loopF (eqStep xs ys d f) (k : Int) = some ((List.zip (xs.drop k) (ys.drop k)).all fun p => r p.1 p.2) := by
    intro m
    induction m with
    | zero =>
      intro k hk
      rw [loopF_inr (r := true) ?_]
      · rw [List.drop_eq_nil_of_le (by omega)]; simp
      · simp only [eqStep, lt_d, len_d, cond_dec]; rw [if_neg (by omega)]
    | succ m ih =>
      intro k hk
      have hlt : k < xs.length := by omega
      have hlt' : k < ys.length := by omega
      rw [List.drop_eq_getElem_cons hlt, List.drop_eq_getElem_cons hlt']
      have hst : eqStep xs ys d f (k : Int) = N.cond (N.not (r xs[k] ys[k])) (some (.inr false)) (some (.inl ((k + 1 : Nat) : Int))) := by
        simp only [eqStep, ite_if]; simp only [lt_d, len_d, cond_dec]
        rw [if_pos (by omega), if_pos (by omega), if_pos (by omega), if_pos (by omega), if_pos (by omega), rd_at xs k hlt, rd_at ys k hlt', hf _ (List.getElem_mem hlt) _ (List.getElem_mem hlt'), bind_some', next_id hlt (by omega)]
      cases hr : r xs[k] ys[k] with
      | true => rw [loopF_inl (s' := ((k + 1 : Nat) : Int)) (by rw [hst, hr]; rfl), ih (k + 1) (by omega)]; simp only [List.zip_cons_cons, List.all_cons, hr, Bool.true_and]
      | false => rw [loopF_inr (r := false) (by rw [hst, hr]; rfl)]; simp only [List.zip_cons_cons, List.all_cons, hr, Bool.false_and]
  simpa using key xs.length 0 (by omega)

theorem zip_all_eq [DecidableEq α] : ∀ {xs ys : List α}, xs.length = ys.length → ((List.zip xs ys).all fun p => decide (p.1 = p.2)) = decide (xs = ys)
  | [], [], _ => by simp
  | x :: xs, y :: ys, h => by
    simp only [List.zip_cons_cons, List.all_cons, zip_all_eq (xs := xs) (ys := ys) (by simpa using h)]
    by_cases h1 : x = y <;> by_cases h2 : xs = ys <;> simp [h1, h2]
  | [], _ :: _, h => by simp at h
  | _ :: _, [], h => by simp at h

theorem eqS_is [DecidableEq α] {xs ys : List α} {d : α} {f : α → α → Option Bool} (hf : ∀ x ∈ xs, ∀ y, f x y = some (decide (x = y))) (hs : xs.length ≤ 4611686018427387904) :
    N.cond (N.ne (N.len xs) (N.len ys)) (some false) (loopF (eqStep xs ys d f) 0) = some (decide (xs = ys)) := by
  simp only [ne_d, len_d, cond_dec]
  split
  · rename_i h
    have : ¬ xs = ys := fun e => h (by rw [e])
    simp [this]
  · rename_i h
    have hl : xs.length = ys.length := by omega
    rw [eqLoop (r := fun x y => decide (x = y)) (fun x hx y _ => hf x hx y) hs hl, zip_all_eq hl]

/-! ## Sizes -/
def SzOk [Data α] (f : α → Int → Option Int) : Prop := ∀ x left, bd x → 0 ≤ left → left ≤ 1048576 → ∃ r, f x left = some r ∧ (r < 0 ∨ (ok x ∧ 0 ≤ r ∧ r ≤ left))

theorem szFlat_is [Data α] [Flat α] : SzOk (fun (xs : List α) (left : Int) => N.cond (N.lt (N.sub .i64 left (N.len xs)) 0) (some (-1)) (some (N.sub .i64 left (N.len xs)))) := by
  intro xs left hb h0 h1
  have h2 := hb.1
  simp only [len_d, lt_d, cond_dec, sub_id (a := left) (b := (xs.length : Int)) (by omega) (by omega)]
  split
  · exact ⟨-1, rfl, .inl (by omega)⟩
  · exact ⟨_, rfl, .inr ⟨⟨by omega, fun x hx => Flat.fl x (hb.2 x hx)⟩, by omega, by omega⟩⟩

end
end Go.Sh
set_option linter.unusedVariables false
set_option linter.unusedSimpArgs false
set_option synthInstance.maxSize 100000
set_option maxHeartbeats 1000000
namespace Go.Sh
open Go Data
namespace D
theorem laws_toAddress_is (x : Address) (h : ok x) : laws_toAddress x = some x := rfl

theorem laws_szIntS_is : SzOk laws_szIntS := szFlat_is

theorem laws_szResource_is : SzOk laws_szResource := by
  intro x left hb h0 h1
  unfold laws_szResource
  obtain ⟨r0, e0, g0⟩ := laws_szIntS_is _ left hb.2.1 h0 h1
  rw [e0, bind_some']
  rcases g0 with g0 | ⟨k0, l0, m0⟩
  · exact ⟨-1, by (try simp only [lt_d, cond_dec]); rw [if_pos g0], .inl (by omega)⟩
  (try simp only [lt_d, cond_dec]); rw [if_neg (by omega)]
  exact ⟨_, rfl, .inr ⟨⟨Flat.fl _ hb.1, k0, Flat.fl _ hb.2.2⟩, by omega, by omega⟩⟩

theorem laws_toIntS_is (x : List Int) (h : ok x) : laws_toIntS x = some x := by
  unfold laws_toIntS
  exact toS_is (d := 0) (f := fun y => some y) (by decide) (fun y hy => rfl) h.1

theorem laws_toResource_is (x : Resource) (h : ok x) : laws_toResource x = some (x.1, x.2.1, x.2.2.1, x.2.2.2.1, x.2.2.2.2) := by
  unfold laws_toResource
  rw [laws_toIntS_is _ h.2.1, bind_some', laws_toAddress_is _ h.2.2, bind_some']

theorem laws_eqIntS_is (x y : List Int) (h : ok x) : laws_eqIntS x y = some (decide (x = y)) := by
  have e : laws_eqIntS x y = N.cond (N.ne (N.len x) (N.len y)) (some false) (loopF (eqStep x y 0 fun a b => some (decide (a = b))) 0) := by
    unfold laws_eqIntS
    congr 2 <;> (funext s; simp only [eqStep, bind_some', ne_d, not_d, cond_dec]; try simp only [ite_not])
  rw [e]
  exact eqS_is (fun a ha b => rfl) (by have := h.1; omega)

theorem laws_eqAddress_is (x y : Address) (h : ok x) : laws_eqAddress x y = some (decide (x = y)) := by
  obtain ⟨a0, a1, a2⟩ := x; obtain ⟨b0, b1, b2⟩ := y
  unfold laws_eqAddress
  simp only [ne_d, neB_d, not_d, cond_dec, Prod.mk.injEq]
  by_cases e0 : a0 = b0 <;> by_cases e1 : a1 = b1 <;> by_cases e2 : a2 = b2 <;> simp [e0, e1, e2]

theorem laws_eqResource_is (x y : Resource) (h : ok x) : laws_eqResource x y = some (decide (x = y)) := by
  obtain ⟨a0, a1, a2⟩ := x; obtain ⟨b0, b1, b2⟩ := y
  unfold laws_eqResource
  simp only [laws_eqIntS_is _ _ h.2.1, laws_eqAddress_is _ _ h.2.2, bind_some']
  simp only [ne_d, neB_d, not_d, cond_dec, Prod.mk.injEq]
  by_cases e0 : a0 = b0 <;> by_cases e1 : a1 = b1 <;> by_cases e2 : a2 = b2 <;> simp [e0, e1, e2]

end D
end Go.Sh
set_option linter.unusedVariables false
set_option linter.unusedSimpArgs false
set_option synthInstance.maxSize 100000
set_option maxHeartbeats 1000000
namespace Go.Sh
open Go Data
namespace D
theorem spec_l1In_is (a b c : Int) : spec_l1In a b c = some (decide (b ≤ a ∧ a ≤ c)) := by
  unfold spec_l1In
  simp only [ge_d, le_d, cond_dec]
  by_cases h1 : b ≤ a <;> by_cases h2 : a ≤ c <;> simp [h1, h2]

theorem impl_InRange_is (a b c : Int) : impl_InRange a b c = some (decide (b ≤ a ∧ a ≤ c)) := by
  unfold impl_InRange
  simp only [ge_d, le_d, cond_dec]
  by_cases h1 : b ≤ a <;> by_cases h2 : a ≤ c <;> simp [h1, h2]

end D
end Go.Sh
set_option linter.unusedVariables false
set_option linter.unusedSimpArgs false
set_option synthInstance.maxSize 100000
set_option maxHeartbeats 1000000
namespace Go.Sh
open Go Data
/-! ## Loops that look for something -/
theorem loop_find {α S R : Type} {step : S → Option (S ⊕ R)} (xs : List α) (emb : Nat → S) (p : α → Option R) (r0 : R)
    (hstep : ∀ (k : Nat) (hk : k < xs.length), step (emb k) = some (match p xs[k] with | some r => .inr r | none => .inl (emb (k + 1))))
    (hend : step (emb xs.length) = some (.inr r0)) : loopF step (emb 0) = some ((xs.findSome? p).getD r0) := by
  have key : ∀ (m k : Nat), k + m = xs.length → loopF step (emb k) = some (((xs.drop k).findSome? p).getD r0) := by
    intro m
    induction m with
    | zero =>
      intro k hk
      have hk' : k = xs.length := by omega
      subst hk'
      rw [loopF_inr hend, List.drop_length]; rfl
    | succ m ih =>
      intro k hk
      have hlt : k < xs.length := by omega
      rw [List.drop_eq_getElem_cons hlt, List.findSome?_cons]
      cases hp : p xs[k] with
      | none => rw [loopF_inl (s' := emb (k + 1)) (by rw [hstep k hlt, hp]), ih (k + 1) (by omega)]
      | some r => rw [loopF_inr (r := r) (by rw [hstep k hlt, hp])]; rfl
  simpa using key xs.length 0 (by omega)

theorem loop_all {α S : Type} {step : S → Option (S ⊕ Bool)} (xs : List α) (emb : Nat → S) (p : α → Bool)
    (hstep : ∀ (k : Nat) (hk : k < xs.length), step (emb k) = some (if p xs[k] = true then .inl (emb (k + 1)) else .inr false))
    (hend : step (emb xs.length) = some (.inr true)) : loopF step (emb 0) = some (xs.all p) := by
  rw [loop_find xs emb (fun x => if p x = true then none else some false) true (fun k hk => by rw [hstep k hk]; split <;> rfl) hend]
  congr 1
  clear hstep hend
  induction xs with
  | nil => rfl
  | cons y ys ih2 => rw [List.findSome?_cons, List.all_cons]; cases hp : p y <;> simp [ih2]

namespace D
/-! ## Counts -/

end D
end Go.Sh
set_option linter.unusedVariables false
set_option linter.unusedSimpArgs false
set_option synthInstance.maxSize 100000
set_option maxHeartbeats 1000000
namespace Go.Sh
open Go Data
namespace D
theorem addr_eq (x y : Address) : N.both (N.eq x.1 y.1) (N.both (N.eq x.2.1 y.2.1) (N.eq x.2.2 y.2.2)) = decide (x = y) := by
  obtain ⟨a, b, c⟩ := x; obtain ⟨d, e, f⟩ := y
  simp only [eq_d, both_d, Prod.mk.injEq]

end D
end Go.Sh
set_option linter.unusedVariables false
set_option linter.unusedSimpArgs false
set_option synthInstance.maxSize 100000
set_option maxHeartbeats 1000000
namespace Go.Sh
open Go Data
namespace D
end D
end Go.Sh
set_option linter.unusedVariables false
set_option linter.unusedSimpArgs false
set_option synthInstance.maxSize 100000
set_option maxHeartbeats 1000000
namespace Go.Sh
open Go Data
namespace D
end D
end Go.Sh
set_option linter.unusedVariables false
set_option linter.unusedSimpArgs false
set_option synthInstance.maxSize 100000
set_option maxHeartbeats 1000000
namespace Go.Sh
open Go Data
namespace D
end D
end Go.Sh
set_option linter.unusedVariables false
set_option linter.unusedSimpArgs false
set_option synthInstance.maxSize 100000
set_option maxHeartbeats 1000000
namespace Go.Sh
open Go Data
namespace D
end D
end Go.Sh
set_option linter.unusedVariables false
set_option linter.unusedSimpArgs false
set_option synthInstance.maxSize 100000
set_option maxHeartbeats 1000000
namespace Go.Sh
open Go Data
namespace D
/-! ### Ranges of lists -/
theorem impl_allIn_is {l : List Int} (h : l.length ≤ 4611686018427387904) (a b : Int) : impl_allIn l a b = some (l.all fun x => decide (a ≤ x ∧ x ≤ b)) := by
  refine loop_all l (fun k => ((k : Nat) : Int)) (fun x => decide (a ≤ x ∧ x ≤ b)) (fun k hk => ?_) ?_
  · have h0 : (0 : Int) ≤ (k : Int) := by omega
    have h1 : (k : Int) < (l.length : Int) := by omega
    simp only [ite_if]; simp only [lt_d, len_d, cond_dec, h0, h1, if_true, rd_at l k hk, impl_InRange_is, bind_some', not_d, next_id hk (by omega), decide_eq_true_eq]
    by_cases c : a ≤ l[k] ∧ l[k] ≤ b
    · rw [if_neg (by simpa using c), if_pos c]
    · rw [if_pos c, if_neg c]
  · simp only [lt_d, len_d, cond_dec]; rw [if_neg (by omega)]

theorem spec_l5Bytes_is {l : List Int} (h : l.length ≤ 4611686018427387904) : spec_l5Bytes l = some (l.all fun x => decide (0 ≤ x ∧ x ≤ 255)) := by
  refine loop_all l (fun k => ((k : Nat) : Int)) (fun x => decide (0 ≤ x ∧ x ≤ 255)) (fun k hk => ?_) ?_
  · have h0 : (0 : Int) ≤ (k : Int) := by omega
    have h1 : (k : Int) < (l.length : Int) := by omega
    simp only [ite_if]; simp only [lt_d, len_d, cond_dec, h0, h1, if_true, rd_at l k hk, spec_l1In_is, bind_some', not_d, next_id hk (by omega), decide_eq_true_eq]
    by_cases c : 0 ≤ l[k] ∧ l[k] ≤ 255
    · rw [if_neg (by simpa using c), if_pos c]
    · rw [if_pos c, if_neg c]
  · simp only [lt_d, len_d, cond_dec]; rw [if_neg (by omega)]

/-! ### Addresses, resources, captures -/
def addrP (a : Address) : Bool := decide (1 ≤ a.1 ∧ a.1 ≤ 9) && decide (0 ≤ a.2.1 ∧ a.2.1 ≤ 99) && decide (0 ≤ a.2.2 ∧ a.2.2 ≤ 99)

theorem spec_IsAddress_is (a : Address) : spec_IsAddress a = some (addrP a) := by
  unfold spec_IsAddress addrP
  simp only [spec_l1In_is, bind_some']
  cases decide (1 ≤ a.1 ∧ a.1 ≤ 9) <;> cases decide (0 ≤ a.2.1 ∧ a.2.1 ≤ 99) <;> simp

theorem impl_IsAddress_is (a : Address) : impl_IsAddress a = some (addrP a) := by
  unfold impl_IsAddress addrP
  simp only [impl_InRange_is, bind_some']
  cases decide (1 ≤ a.1 ∧ a.1 ≤ 9) <;> cases decide (0 ≤ a.2.1 ∧ a.2.1 ≤ 99) <;> simp

def bytesP (l : List Int) : Bool := l.all fun x => decide (0 ≤ x ∧ x ≤ 255)

def resP (r : Resource) : Bool :=
  if r.1 = 1 ∨ r.1 = 2 then decide (r.2.1.length ≤ 6) && bytesP r.2.1 && decide (r.2.2 = (0, 0, 0))
  else if r.1 = 3 then decide (r.2.1 = []) && addrP r.2.2
  else if r.1 = 4 then decide (r.2.1 = []) && decide (r.2.2 = (0, 0, 0)) else false

theorem zero_addr (a : Address) : N.both (N.eq a.1 0) (N.both (N.eq a.2.1 0) (N.eq a.2.2 0)) = decide (a = (0, 0, 0)) := addr_eq a (0, 0, 0)

theorem len_zero (l : List Int) : N.eq (N.len l) 0 = decide (l = []) := by
  rw [eq_d, len_d]; cases l <;> simp; omega

theorem impl_IsResource_is {r : Resource} (h : r.2.1.length ≤ 4611686018427387904) : impl_IsResource r = some (resP r) := by
  unfold impl_IsResource resP bytesP
  simp only [impl_allIn_is h, impl_IsAddress_is, bind_some', zero_addr, len_zero]
  simp only [eq_d, le_d, len_d, cond_dec]
  by_cases c1 : r.1 = 1
  · simp only [c1, if_true, true_or]
    by_cases c5 : r.2.1.length ≤ 6
    · rw [if_pos (by omega)]
      cases r.2.1.all fun x => decide (0 ≤ x ∧ x ≤ 255) <;> simp [c5]
    · rw [if_neg (by omega)]; simp [c5]
  · rw [if_neg c1]
    by_cases c2 : r.1 = 2
    · simp only [c2, if_true, or_true]
      by_cases c5 : r.2.1.length ≤ 6
      · rw [if_pos (by omega)]
        cases r.2.1.all fun x => decide (0 ≤ x ∧ x ≤ 255) <;> simp [c5]
      · rw [if_neg (by omega)]; simp [c5]
    · simp only [c1, c2, if_false, or_self]
      by_cases c3 : r.1 = 3
      · simp only [c3, if_true]
        by_cases c6 : r.2.1 = [] <;> simp [c6]
      · simp only [c3, if_false]
        by_cases c4 : r.1 = 4
        · simp only [c4, if_true]
          by_cases c6 : r.2.1 = [] <;> simp [c6]
        · simp only [c4, if_false]

theorem spec_IsResource_is {r : Resource} (h : r.2.1.length ≤ 4611686018427387904) : spec_IsResource r = some (resP r) := by
  unfold spec_IsResource resP bytesP
  simp only [spec_l5Bytes_is h, spec_IsAddress_is, spec_l1In_is, bind_some', zero_addr, len_zero]
  simp only [eq_d, ne_d, gt_d, len_d, cond_not, cond_dec]
  have e6 : r.2.1 = [] → (r.2.1.all fun x => decide (0 ≤ x ∧ x ≤ 255)) = true := fun e => by rw [e]; rfl
  have e7 : r.2.1 = [] → r.2.1.length = 0 := fun e => by rw [e]; rfl
  have e8 : r.2.1.length > 6 → ¬ r.2.1 = [] := fun e h => by rw [h] at e; simp at e
  by_cases c0 : 1 ≤ r.1 ∧ r.1 ≤ 4
  · rw [if_pos c0]
    rcases (show r.1 = 1 ∨ r.1 = 2 ∨ r.1 = 3 ∨ r.1 = 4 by omega) with c | c | c | c
    · cases hc : r.2.1.all fun x => decide (0 ≤ x ∧ x ≤ 255)
      · simp [c]
      · by_cases c5 : r.2.1.length ≤ 6
        · rw [cond_true, if_neg (by omega)]; by_cases hz : r.2.2 = (0, 0, 0) <;> simp [c, c5, hz]
        · rw [cond_true, if_pos (by omega)]; simp [c, c5]
    · cases hc : r.2.1.all fun x => decide (0 ≤ x ∧ x ≤ 255)
      · simp [c]
      · by_cases c5 : r.2.1.length ≤ 6
        · rw [cond_true, if_neg (by omega)]; by_cases hz : r.2.2 = (0, 0, 0) <;> simp [c, c5, hz]
        · rw [cond_true, if_pos (by omega)]; simp [c, c5]
    · by_cases c6 : r.2.1 = []
      · rw [e6 c6, cond_true, if_neg (by rw [e7 c6]; omega)]; simp [c, c6]
        cases addrP r.2.2 <;> simp
      · cases hc : r.2.1.all fun x => decide (0 ≤ x ∧ x ≤ 255)
        · simp [c, c6]
        · by_cases c5 : r.2.1.length ≤ 6
          · rw [cond_true, if_neg (by omega)]; simp [c, c6]
            cases addrP r.2.2 <;> simp
          · rw [cond_true, if_pos (by omega)]; simp [c, c6]
    · by_cases c6 : r.2.1 = []
      · rw [e6 c6, cond_true, if_neg (by rw [e7 c6]; omega)]; by_cases hz : r.2.2 = (0, 0, 0) <;> simp [c, c6, hz]
      · cases hc : r.2.1.all fun x => decide (0 ≤ x ∧ x ≤ 255)
        · simp [c, c6]
        · by_cases c5 : r.2.1.length ≤ 6
          · rw [cond_true, if_neg (by omega)]; simp [c, c6]
          · rw [cond_true, if_pos (by omega)]; simp [c, c6]
  · rw [if_neg c0]
    rw [if_neg (by omega), if_neg (by omega), if_neg (by omega)]

end D
end Go.Sh
set_option linter.unusedVariables false
set_option linter.unusedSimpArgs false
set_option synthInstance.maxSize 100000
set_option maxHeartbeats 1000000
namespace Go.Sh
open Go Data
namespace D
end D
end Go.Sh
set_option linter.unusedVariables false
set_option linter.unusedSimpArgs false
set_option synthInstance.maxSize 100000
set_option maxHeartbeats 1000000
namespace Go.Sh
open Go Data
namespace D
end D
end Go.Sh
set_option linter.unusedVariables false
set_option linter.unusedSimpArgs false
set_option synthInstance.maxSize 100000
set_option maxHeartbeats 1000000
namespace Go.Sh
open Go Data
/-! ## What is drawn: it comes back, and keeps its bounds -/
def Gets {α : Type} (P : α → Prop) (r : Option α) : Prop := ∃ x, r = some x ∧ P x

section
variable {α β S R : Type} {P : α → Prop} {Q : R → Prop}
theorem Gets.bind {x : Option α} {f : α → Option R} (h : Gets P x) (hf : ∀ a, P a → Gets Q (f a)) : Gets Q (N.bind x f) := by
  obtain ⟨a, rfl, ha⟩ := h; exact hf a ha

theorem Gets.cond {b : Bool} {x y : Option R} (h1 : b = true → Gets Q x) (h2 : b = false → Gets Q y) : Gets Q (N.cond b x y) := by
  unfold N.cond; cases b
  · exact h2 rfl
  · exact h1 rfl

theorem Gets.ite {c : Prop} [Decidable c] {x y : Option R} (hc : c) (h : Gets Q x) : Gets Q (N.ite c x y) := by rw [nite_pos hc]; exact h

end
def few {α : Type} [Data α] (n : Nat) (xs : List α) : Prop := xs.length ≤ n ∧ ∀ x ∈ xs, ok x

theorem few.ok {α : Type} [Data α] {n : Nat} {xs : List α} (h : few n xs) (hn : n ≤ 1048576) : ok xs := ⟨Nat.le_trans h.1 hn, h.2⟩

theorem few.set {α : Type} [Data α] {n : Nat} {xs : List α} {x : α} {i : Int} (h : few n xs) (hx : Data.ok x) : few n (N.set xs i x) :=
  ⟨by have := h.1; simp [N.set]; omega, fun y hy => by
    rcases List.mem_or_eq_of_mem_set hy with hy | hy
    · exact h.2 y hy
    · subst hy; exact hx⟩

theorem few.rd {α : Type} [Data α] {n : Nat} {xs : List α} {i : Int} {d : α} (h : few n xs) (hd : Data.ok d) : Data.ok (N.rd xs i d) := by
  unfold N.rd
  rw [List.getD_eq_getElem?_getD]
  cases e : xs[i.toNat]? with
  | none => exact hd
  | some x => exact h.2 x (List.mem_of_getElem? e)

namespace D
end D
end Go.Sh
set_option linter.unusedVariables false
set_option linter.unusedSimpArgs false
set_option synthInstance.maxSize 100000
set_option maxHeartbeats 2000000
namespace Go.Sh
open Go Data
namespace D
end D
end Go.Sh
set_option linter.unusedVariables false
set_option linter.unusedSimpArgs false
set_option synthInstance.maxSize 100000
set_option maxHeartbeats 2000000
namespace Go.Sh
open Go Data
namespace D
end D
end Go.Sh
set_option linter.unusedVariables false
set_option linter.unusedSimpArgs false
set_option synthInstance.maxSize 100000
set_option maxHeartbeats 4000000
namespace Go.Sh
open Go Data
namespace D
end D
end Go.Sh
set_option linter.unusedVariables false
set_option linter.unusedSimpArgs false
set_option synthInstance.maxSize 100000
set_option maxHeartbeats 4000000
namespace Go.Sh
open Go Data
namespace D
end D
end Go.Sh
set_option linter.unusedVariables false
set_option linter.unusedSimpArgs false
set_option synthInstance.maxSize 100000
set_option maxHeartbeats 4000000
namespace Go.Sh
open Go Data
namespace D
end D
end Go.Sh
set_option linter.unusedVariables false
set_option linter.unusedSimpArgs false
set_option synthInstance.maxSize 100000
set_option maxHeartbeats 4000000
namespace Go.Sh
open Go Data
namespace D
end D
end Go.Sh
set_option linter.unusedVariables false
set_option linter.unusedSimpArgs false
set_option synthInstance.maxSize 100000
set_option maxHeartbeats 4000000
namespace Go.Sh
open Go Data
namespace D
end D
end Go.Sh
set_option linter.unusedVariables false
set_option linter.unusedSimpArgs false
set_option synthInstance.maxSize 100000
set_option maxHeartbeats 4000000
namespace Go.Sh
open Go Data
namespace D
end D
end Go.Sh
set_option linter.unusedVariables false
set_option linter.unusedSimpArgs false
set_option synthInstance.maxSize 100000
set_option maxHeartbeats 4000000
namespace Go.Sh
open Go Data
end Go.Sh
set_option linter.unusedVariables false
set_option linter.unusedSimpArgs false
set_option synthInstance.maxSize 100000
set_option maxHeartbeats 4000000
namespace Go.Sh
open Go Data
namespace D
end D
end Go.Sh
set_option linter.unusedVariables false
set_option linter.unusedSimpArgs false
set_option synthInstance.maxSize 100000
set_option maxHeartbeats 4000000
namespace Go.Sh
open Go Data
namespace D
end D
end Go.Sh
set_option linter.unusedVariables false
set_option linter.unusedSimpArgs false
set_option synthInstance.maxSize 100000
set_option maxHeartbeats 4000000
namespace Go.Sh
open Go Data
namespace D
end D
end Go.Sh
set_option linter.unusedVariables false
set_option linter.unusedSimpArgs false
set_option synthInstance.maxSize 100000
set_option maxHeartbeats 4000000
namespace Go.Sh
open Go Data
namespace D
end D
end Go.Sh
set_option linter.unusedVariables false
set_option linter.unusedSimpArgs false
set_option synthInstance.maxSize 100000
set_option maxHeartbeats 4000000
namespace Go.Sh
open Go Data
namespace D
end D
end Go.Sh
set_option linter.unusedVariables false
set_option linter.unusedSimpArgs false
set_option synthInstance.maxSize 100000
set_option maxHeartbeats 4000000
namespace Go.Sh
open Go Data
namespace D
end D
end Go.Sh
set_option linter.unusedVariables false
set_option linter.unusedSimpArgs false
set_option synthInstance.maxSize 100000
set_option maxHeartbeats 4000000
namespace Go.Sh
open Go Data
namespace D
end D
end Go.Sh
set_option linter.unusedVariables false
set_option linter.unusedSimpArgs false
set_option synthInstance.maxSize 100000
set_option maxHeartbeats 4000000
namespace Go.Sh
open Go Data
namespace D
end D
end Go.Sh
set_option linter.unusedVariables false
set_option linter.unusedSimpArgs false
set_option synthInstance.maxSize 100000
set_option maxHeartbeats 4000000
namespace Go.Sh
open Go Data
namespace D
end D
end Go.Sh
set_option linter.unusedVariables false
set_option linter.unusedSimpArgs false
set_option synthInstance.maxSize 100000
set_option maxHeartbeats 4000000
namespace Go.Sh
open Go Data
namespace D
end D
end Go.Sh
set_option linter.unusedVariables false
set_option linter.unusedSimpArgs false
set_option synthInstance.maxSize 100000
set_option maxHeartbeats 4000000
namespace Go.Sh
open Go Data
namespace D
end D
end Go.Sh
set_option linter.unusedVariables false
set_option linter.unusedSimpArgs false
set_option synthInstance.maxSize 100000
set_option maxHeartbeats 4000000
namespace Go.Sh
open Go Data
namespace D
end D
end Go.Sh
set_option linter.unusedVariables false
set_option linter.unusedSimpArgs false
set_option synthInstance.maxSize 100000
set_option maxHeartbeats 4000000
namespace Go.Sh
open Go Data
namespace D
end D
end Go.Sh
set_option linter.unusedVariables false
set_option linter.unusedSimpArgs false
set_option synthInstance.maxSize 100000
set_option maxHeartbeats 4000000
namespace Go.Sh
open Go Data
namespace D
end D
end Go.Sh
set_option linter.unusedVariables false
set_option linter.unusedSimpArgs false
set_option synthInstance.maxSize 100000
set_option maxHeartbeats 4000000
namespace Go.Sh
open Go Data
namespace D
end D
end Go.Sh
set_option linter.unusedVariables false
set_option linter.unusedSimpArgs false
set_option synthInstance.maxSize 100000
set_option maxHeartbeats 4000000
namespace Go.Sh
open Go Data
namespace D
end D
end Go.Sh
set_option linter.unusedVariables false
set_option linter.unusedSimpArgs false
set_option synthInstance.maxSize 100000
set_option maxHeartbeats 4000000
namespace Go.Sh
open Go Data
namespace D
end D
end Go.Sh
set_option linter.unusedVariables false
set_option linter.unusedSimpArgs false
set_option synthInstance.maxSize 100000
set_option maxHeartbeats 4000000
namespace Go.Sh
open Go Data
namespace D
end D
end Go.Sh
set_option linter.unusedVariables false
set_option linter.unusedSimpArgs false
set_option maxRecDepth 100000
set_option maxHeartbeats 4000000
namespace Go.Sh
open Go Data
namespace D
end D
end Go.Sh
set_option linter.unusedVariables false
set_option linter.unusedSimpArgs false
set_option synthInstance.maxSize 100000
set_option maxHeartbeats 4000000
namespace Go.Sh
open Go Data
theorem Gets.both {α : Type} {P Q : α → Prop} {x : Option α} (h1 : Gets P x) (h2 : Gets Q x) : Gets (fun a => P a ∧ Q a) x := by
  obtain ⟨a, rfl, h⟩ := h1
  obtain ⟨b, e, h'⟩ := h2
  simp only [Option.some.injEq] at e
  subst e
  exact ⟨_, rfl, h, h'⟩

namespace D
def digits (b : List Int) : Prop := b.length ≤ 4 ∧ ∀ v ∈ b, 0 ≤ v ∧ v ≤ 8

end D
end Go.Sh
set_option linter.unusedVariables false
set_option linter.unusedSimpArgs false
set_option synthInstance.maxSize 100000
set_option maxHeartbeats 4000000
namespace Go.Sh
open Go Data
namespace D
end D
end Go.Sh
set_option linter.unusedVariables false
set_option linter.unusedSimpArgs false
namespace Go.Sh.D
open Go
structure Ordr (le lt : Int → Int → Bool) : Prop where
  total : ∀ a b, (le a b || le b a) = true
  trans : ∀ a b c, le a b = true → le b c = true → le a c = true
  anti : ∀ a b, le a b = true → le b a = true → a = b
  agree : ∀ a b, le a b = true → lt b a = false

/-- x stands before y: the comparison tells their order -/
def Qp (le lt : Int → Int → Bool) (x y : Int) : Prop := le x y = true ∨ lt y x = true

theorem Ordr.rep {le lt : Int → Int → Bool} {P U U' S : List Int} (hq : (P ++ U ++ S).Pairwise (Qp le lt)) (hp : U'.Perm U) (hs : U'.Pairwise fun a b => le a b = true) : (P ++ U' ++ S).Pairwise (Qp le lt) := by
  simp only [List.pairwise_append, List.mem_append] at hq ⊢
  obtain ⟨⟨h1, h2, h3⟩, h4, h5⟩ := hq
  exact ⟨⟨h1, hs.imp fun h => .inl h, fun a ha b hb => h3 a ha b (hp.mem_iff.1 hb)⟩, h4, fun a ha b hb => h5 a (ha.imp id hp.mem_iff.1) b hb⟩

end Go.Sh.D
set_option linter.unusedVariables false
set_option linter.unusedSimpArgs false
namespace Go.Sh.D
open Go
end Go.Sh.D
set_option linter.unusedVariables false
set_option linter.unusedSimpArgs false
namespace Go.Sh.D
open Go
end Go.Sh.D
set_option linter.unusedVariables false
set_option linter.unusedSimpArgs false
namespace Go.Sh.D
open Go
end Go.Sh.D
set_option linter.unusedVariables false
set_option linter.unusedSimpArgs false
namespace Go.Sh.D
open Go
end Go.Sh.D
set_option linter.unusedVariables false
set_option linter.unusedSimpArgs false
namespace Go.Sh.D
open Go
end Go.Sh.D
set_option linter.unusedVariables false
set_option linter.unusedSimpArgs false
namespace Go.Sh.D
open Go
end Go.Sh.D
set_option linter.unusedVariables false
set_option linter.unusedSimpArgs false
namespace Go.Sh.D
open Go
end Go.Sh.D
set_option linter.unusedVariables false
set_option linter.unusedSimpArgs false
namespace Go.Sh.D
open Go
end Go.Sh.D
set_option linter.unusedVariables false
set_option linter.unusedSimpArgs false
namespace Go.Sh.D
open Go Data
end Go.Sh.D
set_option linter.unusedVariables false
set_option linter.unusedSimpArgs false
namespace Go.Sh.D
open Go Data
end Go.Sh.D
set_option linter.unusedVariables false
set_option linter.unusedSimpArgs false
namespace Go.Sh.D
open Go Data
end Go.Sh.D
set_option linter.unusedVariables false
set_option linter.unusedSimpArgs false
namespace Go.Sh.D
open Go Data
end Go.Sh.D
set_option linter.unusedVariables false
set_option linter.unusedSimpArgs false
namespace Go.Sh.D
open Go Data
end Go.Sh.D
set_option linter.unusedVariables false
set_option linter.unusedSimpArgs false
namespace Go.Sh.D
open Go Data
end Go.Sh.D
set_option linter.unusedVariables false
set_option linter.unusedSimpArgs false
namespace Go.Sh.D
open Go Data
end Go.Sh.D
set_option linter.unusedVariables false
set_option linter.unusedSimpArgs false
namespace Go.Sh.D
open Go Data
end Go.Sh.D
set_option linter.unusedVariables false
set_option linter.unusedSimpArgs false
namespace Go.Sh.D
open Go Data
end Go.Sh.D
set_option linter.unusedVariables false
set_option linter.unusedSimpArgs false
namespace Go.Sh.D
open Go Data
end Go.Sh.D
set_option linter.unusedVariables false
set_option linter.unusedSimpArgs false
namespace Go.Sh.D
open Go Data
end Go.Sh.D
set_option linter.unusedVariables false
set_option linter.unusedSimpArgs false
namespace Go.Sh.D
open Go Data
end Go.Sh.D
set_option linter.unusedVariables false
set_option linter.unusedSimpArgs false
namespace Go.Sh
open Go
namespace D
/-! ## Strings as lists -/
abbrev St (l : List UInt8) : ByteArray := ⟨l.toArray⟩
theorem lit_st (l : List UInt8) : N.lit l = St l := rfl
theorem nostr_st : N.nostr = St [] := rfl
theorem cat_st (a b : List UInt8) : N.cat (St a) (St b) = St (a ++ b) := by
  unfold N.cat
  apply ByteArray.ext
  simp [ByteArray.data_append]
theorem size_st (a : List UInt8) : (St a).size = a.length := by simp [ByteArray.size]
theorem fits_st {a b : List UInt8} (h : a.length + b.length ≤ 4611686018427387904) : N.catFits (St a) (St b) := by
  unfold N.catFits; rw [size_st, size_st]; omega
theorem ofBytes_st (x : Int) : N.ofBytes [x] = St [UInt8.ofNat x.toNat] := rfl
/-! ## Numerals -/
theorem rem_nat (x : Nat) : N.rem (x : Int) 10 = ((x % 10 : Nat) : Int) := by unfold N.rem; exact (Int.ofNat_tmod x 10).symm
theorem quo_nat (x : Nat) (h : x < 1000000000000000000) : N.quo .i64 (x : Int) 10 = ((x / 10 : Nat) : Int) := by
  unfold N.quo
  have e : Int.tdiv (x : Int) 10 = ((x / 10 : Nat) : Int) := (Int.ofNat_tdiv x 10).symm
  rw [e]
  exact wrap_id (by omega) (by omega)
theorem conv8 (d : Nat) (h : d < 10) : N.conv .u8 (N.add .i64 48 (d : Int)) = ((48 + d : Nat) : Int) := by
  rw [add_id (by omega) (by omega)]
  have : d = 0 ∨ d = 1 ∨ d = 2 ∨ d = 3 ∨ d = 4 ∨ d = 5 ∨ d = 6 ∨ d = 7 ∨ d = 8 ∨ d = 9 := by omega
  rcases this with h | h | h | h | h | h | h | h | h | h <;> subst h <;> rfl

/-- the digits of a number; none for 0 -/
def digs (u : Nat) : List UInt8 := if u = 0 then [] else Lib.decDigits u
theorem digs_step (u : Nat) (h : u ≠ 0) : digs u = digs (u / 10) ++ [UInt8.ofNat (48 + u % 10)] := by
  unfold digs
  rw [if_neg h]
  rw [Lib.decDigits]
  split
  · rename_i h1
    have : u / 10 = 0 := by omega
    rw [if_pos this]
    have : u % 10 = u := by omega
    rw [this]; rfl
  · rename_i h1
    have : u / 10 ≠ 0 := by omega
    rw [if_neg this]

def fmtBody (x0 : Int) : ByteArray × Int → Option ((ByteArray × Int) ⊕ ByteArray) := fun s1 =>
  N.cond (N.ne s1.2 0)
    (N.cond (N.lt (N.rem s1.2 10) 0)
      (N.ite (N.catFits (N.ofBytes [N.conv .u8 (N.add .i64 48 (N.sub .i64 0 (N.rem s1.2 10)))]) s1.1)
        (some (.inl (N.cat (N.ofBytes [N.conv .u8 (N.add .i64 48 (N.sub .i64 0 (N.rem s1.2 10)))]) s1.1, N.quo .i64 s1.2 10)))
        none)
      (N.ite (N.catFits (N.ofBytes [N.conv .u8 (N.add .i64 48 (N.rem s1.2 10))]) s1.1)
        (some (.inl (N.cat (N.ofBytes [N.conv .u8 (N.add .i64 48 (N.rem s1.2 10))]) s1.1, N.quo .i64 s1.2 10)))
        none))
    (Option.map Sum.inr (N.cond (N.lt x0 0) (N.ite (N.catFits (N.lit [45]) s1.1) (some (N.cat (N.lit [45]) s1.1)) none) (some s1.1)))

theorem fmt_loop (x0 : Int) (h0 : 0 ≤ x0) : ∀ (k u : Nat) (acc : List UInt8), u < 10 ^ k → u < 1000000000000000000 → acc.length + k ≤ 1000 → loopF (fmtBody x0) (St acc, (u : Int)) = some (St (digs u ++ acc)) := by
  intro k
  induction k with
  | zero =>
    intro u acc h1 _ h2
    have : u = 0 := by simp at h1; exact h1
    subst this
    refine loopF_inr ?_
    unfold fmtBody
    simp only [ne_d, lt_d, cond_dec]
    rw [if_neg (by simp), if_neg (by omega)]
    rfl
  | succ k ih =>
    intro u acc h1 h3 h2
    by_cases hu : u = 0
    · subst hu
      refine loopF_inr ?_
      unfold fmtBody
      simp only [ne_d, lt_d, cond_dec]
      rw [if_neg (by simp), if_neg (by omega)]
      rfl
    · have hd : u % 10 < 10 := Nat.mod_lt _ (by omega)
      have hs : fmtBody x0 (St acc, (u : Int)) = some (.inl (St (UInt8.ofNat (48 + u % 10) :: acc), ((u / 10 : Nat) : Int))) := by
        unfold fmtBody
        simp only [ne_d, lt_d, cond_dec, rem_nat]
        rw [if_pos (by omega), if_neg (by omega), conv8 _ hd, ofBytes_st, nite_pos (fits_st (by simp; omega)), cat_st, quo_nat u h3]
        rfl
      rw [loopF_inl hs, ih (u / 10) _ (by rw [Nat.pow_succ] at h1; omega) (by omega) (by simp; omega), digs_step u hu]
      simp

theorem fmt_is (u : Nat) (h : u < 1000000000000000000) : spec_FormatInt (u : Int) = some (St (Lib.decDigits u)) := by
  unfold spec_FormatInt
  by_cases hu : u = 0
  · subst hu; simp [N.eq, Lib.decDigits]; rfl
  · have h1 : N.eq (u : Int) 0 = false := by rw [eq_d]; simp [hu]
    rw [h1]
    have h2 := fmt_loop (u : Int) (by omega) 18 u [] (by simpa using h) h (by simp)
    have h3 : digs u = Lib.decDigits u := by unfold digs; rw [if_neg hu]
    rw [h3, List.append_nil] at h2
    exact h2
theorem itoa_is (u : Nat) (h : u < 1000000000000000000) : impl_FormatInt (u : Int) = some (St (Lib.decDigits u)) := by
  unfold impl_FormatInt strconv_Itoa N.itoa Lib.itoa
  rw [if_pos (by omega), if_neg (by omega)]
  rfl
theorem fmt_int {n : Int} (h0 : 0 ≤ n) (h : n < 1000000000000000000) : spec_FormatInt n = some (St (Lib.decDigits n.toNat)) := by
  obtain ⟨u, rfl⟩ : ∃ u : Nat, n = u := ⟨n.toNat, by omega⟩
  exact fmt_is u (by omega)
theorem itoa_int {n : Int} (h0 : 0 ≤ n) (h : n < 1000000000000000000) : impl_FormatInt n = some (St (Lib.decDigits n.toNat)) := by
  obtain ⟨u, rfl⟩ : ∃ u : Nat, n = u := ⟨n.toNat, by omega⟩
  exact itoa_is u (by omega)
end D
end Go.Sh
set_option linter.unusedVariables false
set_option linter.unusedSimpArgs false
namespace Go.Sh
open Go Data
namespace D
theorem digs_len : ∀ (k u : Nat), u < 10 ^ k → (digs u).length ≤ k
  | 0, u, h => by
    have : u = 0 := by simpa using h
    subst this; simp [digs]
  | k + 1, u, h => by
    by_cases hu : u = 0
    · subst hu; simp [digs]
    · rw [digs_step u hu]
      have := digs_len k (u / 10) (by rw [Nat.pow_succ] at h; omega)
      simp; omega
theorem dec_len {u : Nat} (h : u < 1000000000000000000) : (Lib.decDigits u).length ≤ 18 := by
  by_cases hu : u = 0
  · subst hu; rw [Lib.decDigits_one (by omega)]; simp
  · have := digs_len 18 u (by simpa using h)
    unfold digs at this
    rw [if_neg hu] at this
    exact this
def dec (n : Int) : List UInt8 := Lib.decDigits n.toNat
theorem dec_le {n : Int} (h0 : 0 ≤ n) (h : n < 1000000000000000000) : (dec n).length ≤ 18 := dec_len (by omega)

def addrL (a : Address) : List UInt8 := dec a.1 ++ 47 :: dec a.2.1 ++ (if a.2.2 = 0 then [] else 63 :: dec a.2.2)
theorem addrP_is (a : Address) : addrP a = true ↔ (1 ≤ a.1 ∧ a.1 ≤ 9) ∧ (0 ≤ a.2.1 ∧ a.2.1 ≤ 99) ∧ (0 ≤ a.2.2 ∧ a.2.2 ≤ 99) := by
  unfold addrP
  simp only [Bool.and_eq_true, decide_eq_true_eq, and_assoc]
theorem addrL_len {a : Address} (h : addrP a = true) : (addrL a).length ≤ 60 := by
  obtain ⟨h1, h2, h3⟩ := (addrP_is a).1 h
  have l1 := dec_le (n := a.1) (by omega) (by omega)
  have l2 := dec_le (n := a.2.1) (by omega) (by omega)
  have l3 := dec_le (n := a.2.2) (by omega) (by omega)
  unfold addrL
  split <;> simp <;> omega

theorem spec_AddressText_is (a : Address) : spec_AddressText a = some (St (if addrP a = true then addrL a else [])) := by
  unfold spec_AddressText
  rw [spec_IsAddress_is, bind_some']
  by_cases h : addrP a = true
  · obtain ⟨h1, h2, h3⟩ := (addrP_is a).1 h
    have l1 := dec_le (n := a.1) (by omega) (by omega)
    have l2 := dec_le (n := a.2.1) (by omega) (by omega)
    have l3 := dec_le (n := a.2.2) (by omega) (by omega)
    have f1 : spec_FormatInt a.1 = some (St (dec a.1)) := fmt_int (by omega) (by omega)
    have f2 : spec_FormatInt a.2.1 = some (St (dec a.2.1)) := fmt_int (by omega) (by omega)
    have f3 : spec_FormatInt a.2.2 = some (St (dec a.2.2)) := fmt_int (by omega) (by omega)
    rw [h]
    simp only [N.not, Bool.not_true, cond_false, f1, f2, f3, bind_some', lit_st, if_true]
    rw [nite_pos (fits_st (by simp; omega))]
    simp only [cat_st]
    rw [nite_pos (fits_st (by simp; omega))]
    simp only [ne_d, cond_dec]
    by_cases hq : a.2.2 = 0
    · rw [if_neg (by omega)]
      unfold addrL
      rw [if_pos hq]; simp
    · rw [if_pos hq, nite_pos (fits_st (by simp; omega)), nite_pos (fits_st (by simp; omega))]
      unfold addrL
      rw [if_neg hq]; simp
  · have h' : addrP a = false := by simpa using h
    rw [h']; rfl

theorem impl_AddressText_is (a : Address) : impl_AddressText a = some (St (if addrP a = true then addrL a else [])) := by
  unfold impl_AddressText
  rw [impl_IsAddress_is, bind_some']
  by_cases h : addrP a = true
  · obtain ⟨h1, h2, h3⟩ := (addrP_is a).1 h
    have l1 := dec_le (n := a.1) (by omega) (by omega)
    have l2 := dec_le (n := a.2.1) (by omega) (by omega)
    have l3 := dec_le (n := a.2.2) (by omega) (by omega)
    have f1 : impl_FormatInt a.1 = some (St (dec a.1)) := itoa_int (by omega) (by omega)
    have f2 : impl_FormatInt a.2.1 = some (St (dec a.2.1)) := itoa_int (by omega) (by omega)
    have f3 : impl_FormatInt a.2.2 = some (St (dec a.2.2)) := itoa_int (by omega) (by omega)
    rw [h]
    simp only [N.not, Bool.not_true, cond_false, f1, f2, f3, bind_some', lit_st, if_true]
    rw [nite_pos (fits_st (by simp; omega))]
    simp only [cat_st]
    rw [nite_pos (fits_st (by simp; omega))]
    simp only [ne_d, cond_dec]
    by_cases hq : a.2.2 = 0
    · rw [if_neg (by omega)]
      unfold addrL
      rw [if_pos hq]; simp
    · rw [if_pos hq, nite_pos (fits_st (by simp; omega)), nite_pos (fits_st (by simp; omega))]
      unfold addrL
      rw [if_neg hq]; simp
  · have h' : addrP a = false := by simpa using h
    rw [h']; rfl

/-- an address shown at a tick of its recording -/
def shownP (x : Shown) : Bool := decide (0 ≤ x.1 ∧ x.1 ≤ 2000) && addrP x.2
def shownL (x : Shown) : List UInt8 := [97, 114, 99, 104, 105, 118, 101, 47] ++ dec x.1 ++ 47 :: addrL x.2
def shownT (x : Shown) : List UInt8 := if shownP x = true then shownL x else []
theorem shownP_is (x : Shown) : shownP x = true ↔ (0 ≤ x.1 ∧ x.1 ≤ 2000) ∧ addrP x.2 = true := by
  unfold shownP; simp only [Bool.and_eq_true, decide_eq_true_eq]

theorem spec_ShownText_is (x : Shown) : spec_ShownText x = some (St (shownT x)) := by
  unfold spec_ShownText shownT
  rw [spec_l1In_is, bind_some', spec_IsAddress_is]
  by_cases h : 0 ≤ x.1 ∧ x.1 ≤ 2000
  · have l1 := dec_le (n := x.1) (by omega) (by omega)
    have f1 : spec_FormatInt x.1 = some (St (dec x.1)) := fmt_int (by omega) (by omega)
    by_cases ha : addrP x.2 = true
    · have l2 := addrL_len ha
      rw [if_pos ((shownP_is x).2 ⟨h, ha⟩), spec_AddressText_is, ha]
      simp only [N.not, h, and_self, decide_true, Bool.not_true, cond_false, f1, bind_some', lit_st, if_true]
      rw [nite_pos (fits_st (by simp; omega))]
      simp only [cat_st]
      rw [nite_pos (fits_st (by simp; omega)), nite_pos (fits_st (by simp; omega))]
      unfold shownL
      simp
    · rw [if_neg (fun e => ha ((shownP_is x).1 e).2)]
      have h' : addrP x.2 = false := by simpa using ha
      simp only [h', N.not, h, and_self, decide_true, Bool.not_true, Bool.not_false, cond_true, cond_false, bind_some', nostr_st]
  · rw [if_neg (fun e => h ((shownP_is x).1 e).1)]
    simp only [N.not, h, decide_false, Bool.not_false, cond_true, nostr_st]
theorem impl_ShownText_is (x : Shown) : impl_ShownText x = some (St (shownT x)) := by
  unfold impl_ShownText shownT
  rw [impl_InRange_is, bind_some', impl_IsAddress_is]
  by_cases h : 0 ≤ x.1 ∧ x.1 ≤ 2000
  · have l1 := dec_le (n := x.1) (by omega) (by omega)
    have f1 : impl_FormatInt x.1 = some (St (dec x.1)) := itoa_int (by omega) (by omega)
    by_cases ha : addrP x.2 = true
    · have l2 := addrL_len ha
      rw [if_pos ((shownP_is x).2 ⟨h, ha⟩), impl_AddressText_is, ha]
      simp only [N.not, h, and_self, decide_true, Bool.not_true, cond_false, f1, bind_some', lit_st, if_true]
      rw [nite_pos (fits_st (by simp; omega))]
      simp only [cat_st]
      rw [nite_pos (fits_st (by simp; omega)), nite_pos (fits_st (by simp; omega))]
      unfold shownL
      simp
    · rw [if_neg (fun e => ha ((shownP_is x).1 e).2)]
      have h' : addrP x.2 = false := by simpa using ha
      simp only [h', N.not, h, and_self, decide_true, Bool.not_true, Bool.not_false, cond_true, cond_false, bind_some', nostr_st]
  · rw [if_neg (fun e => h ((shownP_is x).1 e).1)]
    simp only [N.not, h, decide_false, Bool.not_false, cond_true, nostr_st]

theorem FnExactShowMove_true (x : Resource) (y : Int) (hx : bd x) (hy : bd y) : laws_FnExactShowMove x y = some true := by
  unfold laws_FnExactShowMove
  obtain ⟨s, e, hs⟩ := laws_szResource_is x 1048576 hx (by omega) (by omega)
  rw [e, bind_some', lt_d, cond_dec]
  rcases hs with hs | ⟨hk, h0, h1⟩
  · rw [if_pos hs]
  rw [if_neg (by omega)]
  have hl : x.2.1.length ≤ 4611686018427387904 := by have := hk.2.1.1; omega
  have e1 : spec_ShowMove x y = impl_ShowMove x y := by
    unfold spec_ShowMove impl_ShowMove
    rw [spec_IsResource_is hl, impl_IsResource_is hl]
    simp only [spec_ShownText_is, impl_ShownText_is]
  have e2 : ∃ r, impl_ShowMove x y = some r := by
    unfold impl_ShowMove
    rw [impl_IsResource_is hl]
    simp only [impl_ShownText_is, bind_some', N.not, ne_d, cond_dec]
    cases resP x
    · exact ⟨_, rfl⟩
    · simp only [Bool.not_true, cond_false]
      split <;> exact ⟨_, rfl⟩
  obtain ⟨r, hr⟩ := e2
  obtain ⟨a, b, c⟩ := x
  have e1 : spec_ShowMove (a, b, c) y = some r := e1.trans hr
  simp only [laws_toResource_is _ hk, bind_some', e1, hr, neS_d, cond_dec, laws_eqResource_is _ _ hk, not_d]
  simp
end D
end Go.Sh
set_option linter.unusedVariables false
set_option linter.unusedSimpArgs false
namespace Go.Sh
open Go Data
namespace D
end D
end Go.Sh
