/- The native forms of the functions that FnRedacted reaches, and their pure laws: FnRedacted is true for every input of bounded parts. No condition beyond the bounds that every input keeps. -/
import Derived.Test.YtomfcmpdjfdnhaaSh8
set_option linter.unusedVariables false
set_option maxRecDepth 100000
set_option maxHeartbeats 4000000
namespace Go.Sh
open Go
namespace N
def nostr : ByteArray := ByteArray.empty
def lit (l : List UInt8) : ByteArray := ⟨l.toArray⟩
def let_ {α R : Type} (x : α) (f : α → Option R) : Option R := f x
end N
namespace D
abbrev Leaf : Type := Int × Int × Bool × Int
abbrev l1Cur : Type := (List Int) × Int × Int
noncomputable def spec_l1In (x0 : Int) (x1 : Int) (x2 : Int) : Option (Bool) :=
  N.cond (N.ge x0 x1)
    (some (N.le x0 x2))
    (some false)

noncomputable def impl_InRange (x0 : Int) (x1 : Int) (x2 : Int) : Option (Bool) :=
  N.cond (N.le x1 x0)
    (some (N.le x0 x2))
    (some false)

noncomputable def spec_Mod (x0 : Int) (x1 : Int) : Option (Int) :=
  N.bind (spec_l1In x1 1 1000000000000) fun r1 =>
    N.cond (N.not r1)
      (some 0)
      (
        N.ite (x1 = 0)
          none
          (
            N.ite (x1 = 0)
              none
              (some (N.rem (N.add .i64 (N.rem x0 x1) x1) x1))))

noncomputable def spec_Hash (x0 : List Int) : Option (Int) :=
  loopF (fun (s1 : Int × Int) =>
      N.cond (N.lt s1.2 (N.len x0))
        (
          N.ite (0 ≤ s1.2)
            (
              N.ite (s1.2 < N.len x0)
                (
                  N.bind (spec_Mod (N.rd x0 s1.2 0) 2147483647) fun r1 =>
                    some (.inl (N.rem (N.add .i64 (N.add .i64 (N.mul .i64 s1.1 1000003) r1) 13) 2147483647, N.add .i64 s1.2 1)))
                none)
            none)
        (some (.inr s1.1)))
    (11, 0)

noncomputable def impl_Mod (x0 : Int) (x1 : Int) : Option (Int) :=
  N.bind (impl_InRange x1 1 1000000000000) fun r1 =>
    N.cond (N.not r1)
      (some 0)
      (
        N.ite (x1 = 0)
          none
          (
            N.ite (x1 = 0)
              none
              (some (N.rem (N.add .i64 (N.rem x0 x1) x1) x1))))

noncomputable def impl_Hash (x0 : List Int) : Option (Int) :=
  loopF (fun (s1 : Int × Int) =>
      N.cond (N.lt s1.2 (N.len x0))
        (
          N.ite (0 ≤ s1.2)
            (
              N.ite (s1.2 < N.len x0)
                (
                  N.bind (impl_Mod (N.rd x0 s1.2 0) 2147483647) fun r1 =>
                    some (.inl (N.rem (N.add .i64 (N.add .i64 (N.mul .i64 s1.1 1000003) r1) 13) 2147483647, N.add .i64 s1.2 1)))
                none)
            none)
        (some (.inr s1.1)))
    (11, 0)

noncomputable def impl_AreLeaves_1 (x0 : Leaf) : Option (Bool) :=
  N.cond x0.2.2.1
    (
      N.cond (N.ne x0.1 0)
        (some true)
        (some (N.ne x0.2.1 0)))
    (
      N.bind (impl_InRange x0.1 0 255) fun r1 =>
        N.cond (N.not r1)
          (some true)
          (
            N.bind (impl_Hash [x0.1, x0.2.1]) fun r2 =>
              some (N.ne x0.2.2.2 r2)))

noncomputable def slices_IndexFunc_Leaf_impl_AreLeaves_1 (x0 : List Leaf) : Option (Int) :=
  loopF (fun (s1 : Int) =>
      N.cond (N.lt s1 (N.len x0))
        (
          N.ite (0 ≤ s1)
            (
              N.ite (s1 < N.len x0)
                (
                  N.bind (impl_AreLeaves_1 (N.rd x0 s1 (0, 0, false, 0))) fun r1 =>
                    N.cond r1
                      (some (.inr s1))
                      (some (.inl (N.add .i64 s1 1))))
                none)
            none)
        (some (.inr (-1))))
    0

noncomputable def slices_ContainsFunc_Leaf_impl_AreLeaves_1 (x0 : List Leaf) : Option (Bool) :=
  N.bind (slices_IndexFunc_Leaf_impl_AreLeaves_1 x0) fun r1 =>
    some (N.ge r1 0)

noncomputable def impl_AreLeaves (x0 : List Leaf) : Option (Bool) :=
  N.cond (N.le (N.len x0) 100)
    (
      N.bind (slices_ContainsFunc_Leaf_impl_AreLeaves_1 x0) fun r1 =>
        some (N.not r1))
    (some false)

noncomputable def impl_HiddenAt (x0 : List Leaf) : Option (List Int) :=
  loopF (fun (s1 : List Int × Int) =>
      N.cond (N.lt s1.2 (N.len x0))
        (
          N.ite (0 ≤ s1.2)
            (
              N.ite (s1.2 < N.len x0)
                (
                  N.cond ((N.rd x0 s1.2 (0, 0, false, 0)).2.2.1)
                    (
                      N.ite (N.fits s1.1 [s1.2] 8)
                        (some (.inl (N.app s1.1 [s1.2], N.add .i64 s1.2 1)))
                        none)
                    (some (.inl (s1.1, N.add .i64 s1.2 1))))
                none)
            none)
        (some (.inr s1.1)))
    ([], 0)

noncomputable def impl_RootOf_f : Nat → (List Int) → Option (Int)
  | 0, _ => none
  | n + 1, x0 =>
    N.cond (N.eq (N.len x0) 0)
      (some 0)
      (
        N.cond (N.eq (N.len x0) 1)
          (
            N.ite (0 < N.len x0)
              (some (N.rd x0 0 0))
              none)
          (
            N.ite (0 ≤ N.quo .i64 (N.add .i64 (N.len x0) 1) 2)
              (
                N.ite (N.quo .i64 (N.add .i64 (N.len x0) 1) 2 ≤ N.len x0)
                  (
                    N.bind (impl_RootOf_f n (N.cut x0 0 (N.quo .i64 (N.add .i64 (N.len x0) 1) 2))) fun r1 =>
                      N.ite (0 ≤ N.quo .i64 (N.add .i64 (N.len x0) 1) 2)
                        (
                          N.ite (N.quo .i64 (N.add .i64 (N.len x0) 1) 2 ≤ N.len x0)
                            (
                              N.ite (N.len x0 ≤ N.len x0)
                                (
                                  N.bind (impl_RootOf_f n (N.cut x0 (N.quo .i64 (N.add .i64 (N.len x0) 1) 2) (N.len x0))) fun r2 =>
                                    N.bind (impl_Hash [r1, r2]) fun r3 =>
                                      some r3)
                                none)
                            none)
                        none)
                  none)
              none))
noncomputable def impl_RootOf (x0 : List Int) : Option (Int) := impl_RootOf_f (x0.length + 1) x0

noncomputable def impl_SealRoot (x0 : List Leaf) : Option (Int) :=
  loopF (fun (s1 : List Int × Int) =>
      N.cond (N.lt s1.2 (N.len x0))
        (
          N.ite (0 ≤ s1.2)
            (
              N.ite (s1.2 < N.len x0)
                (
                  N.ite (N.fits s1.1 [(N.rd x0 s1.2 (0, 0, false, 0)).2.2.2] 8)
                    (some (.inl (N.app s1.1 [(N.rd x0 s1.2 (0, 0, false, 0)).2.2.2], N.add .i64 s1.2 1)))
                    none)
                none)
            none)
        (
          Option.map Sum.inr
            (
              N.bind (impl_RootOf s1.1) fun r1 =>
                some r1)))
    ([], 0)

noncomputable def spec_HideLeaves (x0 : List Leaf) (x1 : List Int) : Option (List Leaf) :=
  N.ite (N.fits [] x0 32)
    (
      loopF (fun (s1 : Int × List Leaf) =>
          N.cond (N.lt s1.1 (N.len x1))
            (
              N.ite (0 ≤ s1.1)
                (
                  N.ite (s1.1 < N.len x1)
                    (
                      N.bind (spec_l1In (N.rd x1 s1.1 0) 0 (N.sub .i64 (N.len x0) 1)) fun r1 =>
                        N.cond r1
                          (
                            N.ite (0 ≤ s1.1)
                              (
                                N.ite (s1.1 < N.len x1)
                                  (
                                    N.ite (0 ≤ s1.1)
                                      (
                                        N.ite (s1.1 < N.len x1)
                                          (
                                            N.ite (0 ≤ N.rd x1 s1.1 0)
                                              (
                                                N.ite (N.rd x1 s1.1 0 < N.len x0)
                                                  (
                                                    N.ite (0 ≤ N.rd x1 s1.1 0)
                                                      (
                                                        N.ite (N.rd x1 s1.1 0 < N.len s1.2)
                                                          (some (.inl (N.add .i64 s1.1 1, N.set s1.2 (N.rd x1 s1.1 0) (0, 0, true, (N.rd x0 (N.rd x1 s1.1 0) (0, 0, false, 0)).2.2.2))))
                                                          none)
                                                      none)
                                                  none)
                                              none)
                                          none)
                                      none)
                                  none)
                              none)
                          (some (.inl (N.add .i64 s1.1 1, s1.2))))
                    none)
                none)
            (some (.inr s1.2)))
        (0, N.app [] x0))
    none

noncomputable def slices_Clone_Leaf (x0 : List Leaf) : Option (List Leaf) :=
  N.nilc (N.isE x0)
    (some [])
    (
      N.ite (N.fits [] x0 32)
        (some (N.app [] x0))
        none)

noncomputable def impl_HideLeaves (x0 : List Leaf) (x1 : List Int) : Option (List Leaf) :=
  N.bind (slices_Clone_Leaf x0) fun r1 =>
    loopF (fun (s1 : Int × List Leaf) =>
        N.cond (N.lt s1.1 (N.len x1))
          (
            N.ite (0 ≤ s1.1)
              (
                N.ite (s1.1 < N.len x1)
                  (
                    N.cond (N.ge (N.rd x1 s1.1 0) 0)
                      (
                        N.cond (N.lt (N.rd x1 s1.1 0) (N.len s1.2))
                          (
                            N.ite (0 ≤ N.rd x1 s1.1 0)
                              (
                                N.ite (N.rd x1 s1.1 0 < N.len s1.2)
                                  (
                                    N.ite (0 ≤ N.rd x1 s1.1 0)
                                      (
                                        N.ite (N.rd x1 s1.1 0 < N.len s1.2)
                                          (some (.inl (N.add .i64 s1.1 1, N.set s1.2 (N.rd x1 s1.1 0) (0, 0, true, (N.rd s1.2 (N.rd x1 s1.1 0) (0, 0, false, 0)).2.2.2))))
                                          none)
                                      none)
                                  none)
                              none)
                          (some (.inl (N.add .i64 s1.1 1, s1.2))))
                      (some (.inl (N.add .i64 s1.1 1, s1.2))))
                  none)
              none)
          (some (.inr s1.2)))
      (0, r1)

noncomputable def impl_IsRedactionOf_1 (x0 : Leaf) (x1 : Leaf) : Option (Bool) :=
  N.cond (N.eq x0.2.2.2 x1.2.2.2)
    (
      N.cond x0.2.2.1
        (some true)
        (some (N.not x1.2.2.1)))
    (some false)

noncomputable def slices_EqualFunc_Leaf_impl_IsRedactionOf_1 (x0 : List Leaf) (x1 : List Leaf) : Option (Bool) :=
  N.cond (N.ne (N.len x0) (N.len x1))
    (some false)
    (
      loopF (fun (s1 : Int) =>
          N.cond (N.lt s1 (N.len x0))
            (
              N.ite (0 ≤ s1)
                (
                  N.ite (s1 < N.len x0)
                    (
                      N.ite (0 ≤ s1)
                        (
                          N.ite (s1 < N.len x1)
                            (
                              N.bind (impl_IsRedactionOf_1 (N.rd x0 s1 (0, 0, false, 0)) (N.rd x1 s1 (0, 0, false, 0))) fun r1 =>
                                N.cond (N.not r1)
                                  (some (.inr false))
                                  (some (.inl (N.add .i64 s1 1))))
                            none)
                        none)
                    none)
                none)
            (some (.inr true)))
        0)

noncomputable def impl_IsRedactionOf (x0 : List Leaf) (x1 : List Leaf) : Option (Bool) :=
  N.bind (impl_AreLeaves x0) fun r1 =>
    N.cond r1
      (
        N.bind (impl_AreLeaves x1) fun r2 =>
          N.cond r2
            (
              N.bind (slices_EqualFunc_Leaf_impl_IsRedactionOf_1 x0 x1) fun r3 =>
                some r3)
            (some false))
      (some false)

noncomputable def spec_l5Bytes (x0 : List Int) : Option (Bool) :=
  loopF (fun (s1 : Int) =>
      N.cond (N.lt s1 (N.len x0))
        (
          N.ite (0 ≤ s1)
            (
              N.ite (s1 < N.len x0)
                (
                  N.bind (spec_l1In (N.rd x0 s1 0) 0 255) fun r1 =>
                    N.cond (N.not r1)
                      (some (.inr false))
                      (some (.inl (N.add .i64 s1 1))))
                none)
            none)
        (some (.inr true)))
    0

noncomputable def spec_SealBody (x0 : List Int) (x1 : Int) : Option (List Leaf) :=
  N.cond (N.gt (N.len x0) 100)
    (some [])
    (
      N.bind (spec_l5Bytes x0) fun r1 =>
        N.cond (N.not r1)
          (some [])
          (
            N.bind (spec_l1In x1 1 999999) fun r2 =>
              N.cond (N.not r2)
                (some [])
                (
                  loopF (fun (s1 : List Leaf × Int) =>
                      N.cond (N.lt s1.2 (N.len x0))
                        (
                          N.bind (spec_Hash [x1, s1.2]) fun r3 =>
                            N.ite (0 ≤ s1.2)
                              (
                                N.ite (s1.2 < N.len x0)
                                  (
                                    N.ite (0 ≤ s1.2)
                                      (
                                        N.ite (s1.2 < N.len x0)
                                          (
                                            N.bind (spec_Hash [N.rd x0 s1.2 0, r3]) fun r4 =>
                                              N.ite (N.fits s1.1 [(N.rd x0 s1.2 0, r3, false, r4)] 32)
                                                (some (.inl (N.app s1.1 [(N.rd x0 s1.2 0, r3, false, r4)], N.add .i64 s1.2 1)))
                                                none)
                                          none)
                                      none)
                                  none)
                              none)
                        (some (.inr s1.1)))
                    ([], 0))))

noncomputable def impl_allIn (x0 : List Int) (x1 : Int) (x2 : Int) : Option (Bool) :=
  loopF (fun (s1 : Int) =>
      N.cond (N.lt s1 (N.len x0))
        (
          N.ite (0 ≤ s1)
            (
              N.ite (s1 < N.len x0)
                (
                  N.bind (impl_InRange (N.rd x0 s1 0) x1 x2) fun r1 =>
                    N.cond (N.not r1)
                      (some (.inr false))
                      (some (.inl (N.add .i64 s1 1))))
                none)
            none)
        (some (.inr true)))
    0

noncomputable def impl_SealBody (x0 : List Int) (x1 : Int) : Option (List Leaf) :=
  N.cond (N.gt (N.len x0) 100)
    (some [])
    (
      N.bind (impl_allIn x0 0 255) fun r1 =>
        N.cond (N.not r1)
          (some [])
          (
            N.bind (impl_InRange x1 1 999999) fun r2 =>
              N.cond (N.not r2)
                (some [])
                (
                  loopF (fun (s1 : List Leaf × Int) =>
                      N.cond (N.lt s1.2 (N.len x0))
                        (
                          N.ite (0 ≤ s1.2)
                            (
                              N.ite (s1.2 < N.len x0)
                                (
                                  N.bind (impl_Hash [x1, s1.2]) fun r3 =>
                                    N.bind (impl_Hash [N.rd x0 s1.2 0, r3]) fun r4 =>
                                      N.ite (N.fits s1.1 [(N.rd x0 s1.2 0, r3, false, r4)] 32)
                                        (some (.inl (N.app s1.1 [(N.rd x0 s1.2 0, r3, false, r4)], N.add .i64 s1.2 1)))
                                        none)
                                none)
                            none)
                        (some (.inr s1.1)))
                    ([], 0))))

noncomputable def laws_big (x0 : List Int) : Option (Bool) :=
  some (N.gt (N.len x0) 1048576)

noncomputable def spec_l1New (x0 : List Int) : Option (l1Cur) :=
  loopF (fun (s1 : Int × Int) =>
      N.cond (N.lt s1.2 (N.len x0))
        (
          N.cond (N.lt s1.2 4000)
            (
              N.ite (0 ≤ s1.2)
                (
                  N.ite (s1.2 < N.len x0)
                    (some (.inl (N.and .i64 (N.add .i64 (N.add .i64 (N.mul .i64 s1.1 137) (N.conv .i64 (N.rd x0 s1.2 0))) 11) 1073741823, N.add .i64 s1.2 1)))
                    none)
                none)
            (some (.inr (x0, 0, s1.1))))
        (some (.inr (x0, 0, s1.1))))
    (N.add .i64 193017 (N.len x0), 0)

noncomputable def spec_l1Byte (x0 : l1Cur) : Option (Int × l1Cur) :=
  N.cond (N.lt x0.2.1 (N.len x0.1))
    (
      N.ite (0 ≤ x0.2.1)
        (
          N.ite (x0.2.1 < N.len x0.1)
            (some (N.and .i64 (N.add .i64 (N.and .i64 (N.xor .i64 (N.shr .i64 (N.add .i64 (N.mul .i64 x0.2.2 6364136223846793005) 1442695040888963407) 33) (N.shr .i64 (N.add .i64 (N.mul .i64 x0.2.2 6364136223846793005) 1442695040888963407) 47)) 255) (N.conv .i64 (N.rd x0.1 x0.2.1 0))) 255, (x0.1, N.add .i64 x0.2.1 1, N.add .i64 (N.mul .i64 x0.2.2 6364136223846793005) 1442695040888963407)))
            none)
        none)
    (some (N.and .i64 (N.xor .i64 (N.shr .i64 (N.add .i64 (N.mul .i64 x0.2.2 6364136223846793005) 1442695040888963407) 33) (N.shr .i64 (N.add .i64 (N.mul .i64 x0.2.2 6364136223846793005) 1442695040888963407) 47)) 255, (x0.1, x0.2.1, N.add .i64 (N.mul .i64 x0.2.2 6364136223846793005) 1442695040888963407)))

noncomputable def spec_l1Below (x0 : l1Cur) (x1 : Int) : Option (Int × l1Cur) :=
  N.cond (N.le x1 0)
    (some (0, x0))
    (
      N.cond (N.le x1 256)
        (
          N.bind (spec_l1Byte x0) fun r1 =>
            N.ite (x1 = 0)
              none
              (some (N.rem r1.1 x1, r1.2)))
        (
          N.bind (spec_l1Byte x0) fun r2 =>
            N.bind (spec_l1Byte r2.2) fun r3 =>
              N.bind (spec_l1Byte r3.2) fun r4 =>
                N.ite (x1 = 0)
                  none
                  (some (N.rem (N.add .i64 (N.add .i64 (N.mul .i64 r2.1 65536) (N.mul .i64 r3.1 256)) r4.1) x1, r4.2))))

noncomputable def spec_l1Once (x0 : l1Cur) (x1 : Int) : Option (Bool × l1Cur) :=
  N.bind (spec_l1Below x0 x1) fun r1 =>
    some (N.eq r1.1 0, r1.2)

noncomputable def spec_l1Int (x0 : l1Cur) (x1 : List Int) : Option (Int × l1Cur) :=
  N.bind (spec_l1Below x0 (N.len x1)) fun r1 =>
    N.ite (0 ≤ r1.1)
      (
        N.ite (r1.1 < N.len x1)
          (some (N.rd x1 r1.1 0, r1.2))
          none)
      none

noncomputable def spec_l5Body (x0 : l1Cur) : Option ((List Int) × l1Cur) :=
  N.bind (spec_l1Below x0 5) fun r1 =>
    loopF (fun (s1 : List Int × Int × (List Int × Int × Int)) =>
        N.cond (N.gt s1.2.1 0)
          (
            N.bind (spec_l1Below s1.2.2 9) fun r2 =>
              N.ite (N.fits s1.1 [r2.1] 8)
                (some (.inl (N.app s1.1 [r2.1], N.sub .i64 s1.2.1 1, r2.2)))
                none)
          (some (.inr (s1.1, s1.2.2))))
      ([], r1.1, r1.2)

noncomputable def spec_l22At (x0 : l1Cur) : Option ((List Int) × l1Cur) :=
  N.bind (spec_l1Below x0 3) fun r1 =>
    loopF (fun (s1 : List Int × Int × (List Int × Int × Int)) =>
        N.cond (N.gt s1.2.1 0)
          (
            N.bind (spec_l1Below s1.2.2 7) fun r2 =>
              N.ite (N.fits s1.1 [N.sub .i64 r2.1 1] 8)
                (some (.inl (N.app s1.1 [N.sub .i64 r2.1 1], N.sub .i64 s1.2.1 1, r2.2)))
                none)
          (some (.inr (s1.1, s1.2.2))))
      ([], r1.1, r1.2)

noncomputable def spec_l22Draw (x0 : l1Cur) : Option ((List Leaf) × l1Cur) :=
  N.bind (spec_l5Body x0) fun r1 =>
    N.bind (spec_l1Below r1.2 99) fun r2 =>
      N.bind (spec_SealBody r1.1 (N.add .i64 1 r2.1)) fun r3 =>
        N.bind (spec_l22At r2.2) fun r4 =>
          N.bind (spec_HideLeaves r3 r4.1) fun r5 =>
            some (r5, r4.2)

noncomputable def spec_l22Any (x0 : l1Cur) : Option ((List Leaf) × l1Cur) :=
  N.bind (spec_l22Draw x0) fun r1 =>
    N.cond (N.eq (N.len r1.1) 0)
      (some r1)
      (
        N.bind (spec_l1Below r1.2 (N.len r1.1)) fun r2 =>
          N.bind (spec_l1Below r2.2 8) fun r3 =>
            N.cond (N.eq r3.1 0)
              (
                N.ite (0 ≤ r2.1)
                  (
                    N.ite (r2.1 < N.len r1.1)
                      (
                        N.ite (0 ≤ r2.1)
                          (
                            N.ite (r2.1 < N.len r1.1)
                              (
                                N.let_ (N.set r1.1 r2.1 (N.add .i64 ((N.rd r1.1 r2.1 (0, 0, false, 0)).1) 1, (N.rd r1.1 r2.1 (0, 0, false, 0)).2.1, (N.rd r1.1 r2.1 (0, 0, false, 0)).2.2.1, (N.rd r1.1 r2.1 (0, 0, false, 0)).2.2.2)) fun v1 =>
                                  some (v1, r3.2))
                              none)
                          none)
                      none)
                  none)
              (
                N.cond (N.eq r3.1 1)
                  (
                    N.ite (0 ≤ r2.1)
                      (
                        N.ite (r2.1 < N.len r1.1)
                          (
                            N.ite (0 ≤ r2.1)
                              (
                                N.ite (r2.1 < N.len r1.1)
                                  (
                                    N.let_ (N.set r1.1 r2.1 ((N.rd r1.1 r2.1 (0, 0, false, 0)).1, N.add .i64 ((N.rd r1.1 r2.1 (0, 0, false, 0)).2.1) 1, (N.rd r1.1 r2.1 (0, 0, false, 0)).2.2.1, (N.rd r1.1 r2.1 (0, 0, false, 0)).2.2.2)) fun v2 =>
                                      some (v2, r3.2))
                                  none)
                              none)
                          none)
                      none)
                  (
                    N.cond (N.eq r3.1 2)
                      (
                        N.ite (0 ≤ r2.1)
                          (
                            N.ite (r2.1 < N.len r1.1)
                              (
                                N.ite (0 ≤ r2.1)
                                  (
                                    N.ite (r2.1 < N.len r1.1)
                                      (
                                        N.let_ (N.set r1.1 r2.1 ((N.rd r1.1 r2.1 (0, 0, false, 0)).1, (N.rd r1.1 r2.1 (0, 0, false, 0)).2.1, (N.rd r1.1 r2.1 (0, 0, false, 0)).2.2.1, N.add .i64 ((N.rd r1.1 r2.1 (0, 0, false, 0)).2.2.2) 1)) fun v3 =>
                                          some (v3, r3.2))
                                      none)
                                  none)
                              none)
                          none)
                      (
                        N.cond (N.eq r3.1 3)
                          (
                            N.ite (0 ≤ r2.1)
                              (
                                N.ite (r2.1 < N.len r1.1)
                                  (
                                    N.ite (0 ≤ r2.1)
                                      (
                                        N.ite (r2.1 < N.len r1.1)
                                          (
                                            N.let_ (N.set r1.1 r2.1 ((N.rd r1.1 r2.1 (0, 0, false, 0)).1, (N.rd r1.1 r2.1 (0, 0, false, 0)).2.1, N.not ((N.rd r1.1 r2.1 (0, 0, false, 0)).2.2.1), (N.rd r1.1 r2.1 (0, 0, false, 0)).2.2.2)) fun v4 =>
                                              some (v4, r3.2))
                                          none)
                                      none)
                                  none)
                              none)
                          (some (r1.1, r3.2))))))

noncomputable def spec_DrawHideLeaves (x0 : List Int) : Option ((List Leaf) × (List Int)) :=
  N.bind (spec_l1New x0) fun r1 =>
    N.bind (spec_l22Any r1) fun r2 =>
      N.bind (spec_l22At r2.2) fun r3 =>
        some (r2.1, r3.1)

noncomputable def laws_contains (x0 : List Int) (x1 : Int) : Option (Bool) :=
  loopF (fun (s1 : Int) =>
      N.cond (N.lt s1 (N.len x0))
        (
          N.ite (0 ≤ s1)
            (
              N.ite (s1 < N.len x0)
                (
                  N.cond (N.eq (N.rd x0 s1 0) x1)
                    (some (.inr true))
                    (some (.inl (N.add .i64 s1 1))))
                none)
            none)
        (some (.inr false)))
    0

noncomputable def spec_DrawIsRedactionOf (x0 : List Int) : Option ((List Leaf) × (List Leaf)) :=
  N.bind (spec_l1New x0) fun r1 =>
    N.bind (spec_l22Draw r1) fun r2 =>
      N.bind (spec_l22At r2.2) fun r3 =>
        N.bind (spec_HideLeaves r2.1 r3.1) fun r4 =>
          N.bind (spec_l1Below r3.2 6) fun r5 =>
            N.cond (N.eq r5.1 0)
              (some (r2.1, r4))
              (
                N.cond (N.eq r5.1 1)
                  (
                    N.bind (spec_l22Any r5.2) fun r6 =>
                      some (r6.1, r2.1))
                  (some (r4, r2.1)))

noncomputable def laws_within (x0 : List Int) (x1 : List Int) : Option (Bool) :=
  loopF (fun (s1 : Int) =>
      N.cond (N.lt s1 (N.len x0))
        (
          N.ite (0 ≤ s1)
            (
              N.ite (s1 < N.len x0)
                (
                  N.bind (laws_contains x1 (N.rd x0 s1 0)) fun r1 =>
                    N.cond (N.not r1)
                      (some (.inr false))
                      (some (.inl (N.add .i64 s1 1))))
                none)
            none)
        (some (.inr true)))
    0

noncomputable def spec_DrawSealBody (x0 : List Int) : Option ((List Int) × Int) :=
  N.bind (spec_l1New x0) fun r1 =>
    N.bind (spec_l5Body r1) fun r2 =>
      N.bind (spec_l1Once r2.2 8) fun r3 =>
        N.cond r3.1
          (
            N.bind (spec_l1Int r3.2 [(-1), 255, 256]) fun r4 =>
              N.ite (N.fits r2.1 [r4.1] 8)
                (
                  N.bind (spec_l1Int r4.2 [1, 77, 999999, 1000000, 0]) fun r5 =>
                    some (N.app r2.1 [r4.1], r5.1))
                none)
          (
            N.bind (spec_l1Int r3.2 [1, 77, 999999, 1000000, 0]) fun r6 =>
              some (r2.1, r6.1))

noncomputable def laws_FnRedacted (x0 : List Int) : Option (Bool) :=
  N.bind (laws_big x0) fun r1 =>
    N.cond r1
      (some true)
      (
        N.bind (spec_DrawHideLeaves x0) fun r2 =>
          N.bind (impl_HideLeaves r2.1 r2.2) fun r3 =>
            N.bind (impl_AreLeaves r2.1) fun r4 =>
              N.cond r4
                (
                  N.bind (impl_AreLeaves r3) fun r5 =>
                    N.cond (N.not r5)
                      (some false)
                      (
                        N.bind (impl_IsRedactionOf r3 r2.1) fun r6 =>
                          N.cond (N.not r6)
                            (some false)
                            (
                              N.bind (impl_SealRoot r3) fun r7 =>
                                N.bind (impl_SealRoot r2.1) fun r8 =>
                                  N.cond (N.ne r7 r8)
                                    (some false)
                                    (
                                      N.cond (N.ne (N.len r3) (N.len r2.1))
                                        (some false)
                                        (
                                          loopF (fun (s1 : Int) =>
                                              N.cond (N.lt s1 (N.len r2.1))
                                                (
                                                  N.bind (laws_contains r2.2 s1) fun r9 =>
                                                    N.cond r9
                                                      (
                                                        N.ite (0 ≤ s1)
                                                          (
                                                            N.ite (s1 < N.len r3)
                                                              (
                                                                N.cond (N.not ((N.rd r3 s1 (0, 0, false, 0)).2.2.1))
                                                                  (some (.inr false))
                                                                  (
                                                                    N.ite (0 ≤ s1)
                                                                      (
                                                                        N.ite (s1 < N.len r3)
                                                                          (
                                                                            N.cond (N.ne ((N.rd r3 s1 (0, 0, false, 0)).1) 0)
                                                                              (some (.inr false))
                                                                              (
                                                                                N.ite (0 ≤ s1)
                                                                                  (
                                                                                    N.ite (s1 < N.len r3)
                                                                                      (
                                                                                        N.cond (N.ne ((N.rd r3 s1 (0, 0, false, 0)).2.1) 0)
                                                                                          (some (.inr false))
                                                                                          (
                                                                                            N.ite (0 ≤ s1)
                                                                                              (
                                                                                                N.ite (s1 < N.len r3)
                                                                                                  (
                                                                                                    N.ite (0 ≤ s1)
                                                                                                      (
                                                                                                        N.ite (s1 < N.len r2.1)
                                                                                                          (
                                                                                                            N.cond (N.ne ((N.rd r3 s1 (0, 0, false, 0)).2.2.2) ((N.rd r2.1 s1 (0, 0, false, 0)).2.2.2))
                                                                                                              (some (.inr false))
                                                                                                              (
                                                                                                                N.bind (laws_contains r2.2 s1) fun r10 =>
                                                                                                                  N.cond (N.not r10)
                                                                                                                    (
                                                                                                                      N.ite (0 ≤ s1)
                                                                                                                        (
                                                                                                                          N.ite (s1 < N.len r3)
                                                                                                                            (
                                                                                                                              N.ite (0 ≤ s1)
                                                                                                                                (
                                                                                                                                  N.ite (s1 < N.len r2.1)
                                                                                                                                    (
                                                                                                                                      N.cond (N.not (N.both (N.eq ((N.rd r3 s1 (0, 0, false, 0)).1) ((N.rd r2.1 s1 (0, 0, false, 0)).1)) (N.both (N.eq ((N.rd r3 s1 (0, 0, false, 0)).2.1) ((N.rd r2.1 s1 (0, 0, false, 0)).2.1)) (N.both (N.eqB ((N.rd r3 s1 (0, 0, false, 0)).2.2.1) ((N.rd r2.1 s1 (0, 0, false, 0)).2.2.1)) (N.eq ((N.rd r3 s1 (0, 0, false, 0)).2.2.2) ((N.rd r2.1 s1 (0, 0, false, 0)).2.2.2))))))
                                                                                                                                        (some (.inr false))
                                                                                                                                        (some (.inl (N.add .i64 s1 1))))
                                                                                                                                    none)
                                                                                                                                none)
                                                                                                                            none)
                                                                                                                        none)
                                                                                                                    (some (.inl (N.add .i64 s1 1)))))
                                                                                                          none)
                                                                                                      none)
                                                                                                  none)
                                                                                              none))
                                                                                      none)
                                                                                  none))
                                                                          none)
                                                                      none))
                                                              none)
                                                          none)
                                                      (
                                                        N.bind (laws_contains r2.2 s1) fun r11 =>
                                                          N.cond (N.not r11)
                                                            (
                                                              N.ite (0 ≤ s1)
                                                                (
                                                                  N.ite (s1 < N.len r3)
                                                                    (
                                                                      N.ite (0 ≤ s1)
                                                                        (
                                                                          N.ite (s1 < N.len r2.1)
                                                                            (
                                                                              N.cond (N.not (N.both (N.eq ((N.rd r3 s1 (0, 0, false, 0)).1) ((N.rd r2.1 s1 (0, 0, false, 0)).1)) (N.both (N.eq ((N.rd r3 s1 (0, 0, false, 0)).2.1) ((N.rd r2.1 s1 (0, 0, false, 0)).2.1)) (N.both (N.eqB ((N.rd r3 s1 (0, 0, false, 0)).2.2.1) ((N.rd r2.1 s1 (0, 0, false, 0)).2.2.1)) (N.eq ((N.rd r3 s1 (0, 0, false, 0)).2.2.2) ((N.rd r2.1 s1 (0, 0, false, 0)).2.2.2))))))
                                                                                (some (.inr false))
                                                                                (some (.inl (N.add .i64 s1 1))))
                                                                            none)
                                                                        none)
                                                                    none)
                                                                none)
                                                            (some (.inl (N.add .i64 s1 1)))))
                                                (
                                                  Option.map Sum.inr
                                                    (
                                                      N.bind (spec_DrawIsRedactionOf x0) fun r12 =>
                                                        N.bind (impl_IsRedactionOf r12.1 r12.2) fun r13 =>
                                                          N.cond r13
                                                            (
                                                              N.bind (impl_SealRoot r12.1) fun r14 =>
                                                                N.bind (impl_SealRoot r12.2) fun r15 =>
                                                                  N.cond (N.ne r14 r15)
                                                                    (some false)
                                                                    (
                                                                      N.bind (impl_HiddenAt r12.2) fun r16 =>
                                                                        N.bind (impl_HiddenAt r12.1) fun r17 =>
                                                                          N.bind (laws_within r16 r17) fun r18 =>
                                                                            N.cond (N.not r18)
                                                                              (some false)
                                                                              (
                                                                                N.bind (spec_DrawSealBody x0) fun r19 =>
                                                                                  N.bind (impl_SealBody r19.1 r19.2) fun r20 =>
                                                                                    loopF (fun (s2 : Int) =>
                                                                                        N.cond (N.lt s2 (N.len r20))
                                                                                          (
                                                                                            N.ite (0 ≤ s2)
                                                                                              (
                                                                                                N.ite (s2 < N.len r20)
                                                                                                  (
                                                                                                    N.ite (0 ≤ s2)
                                                                                                      (
                                                                                                        N.ite (s2 < N.len r19.1)
                                                                                                          (
                                                                                                            N.cond (N.ne ((N.rd r20 s2 (0, 0, false, 0)).1) (N.rd r19.1 s2 0))
                                                                                                              (some (.inr false))
                                                                                                              (
                                                                                                                N.ite (0 ≤ s2)
                                                                                                                  (
                                                                                                                    N.ite (s2 < N.len r20)
                                                                                                                      (
                                                                                                                        N.cond ((N.rd r20 s2 (0, 0, false, 0)).2.2.1)
                                                                                                                          (some (.inr false))
                                                                                                                          (
                                                                                                                            loopF (fun (s3 : Int) =>
                                                                                                                                N.cond (N.lt s3 s2)
                                                                                                                                  (
                                                                                                                                    N.ite (0 ≤ s2)
                                                                                                                                      (
                                                                                                                                        N.ite (s2 < N.len r20)
                                                                                                                                          (
                                                                                                                                            N.ite (0 ≤ s3)
                                                                                                                                              (
                                                                                                                                                N.ite (s3 < N.len r20)
                                                                                                                                                  (
                                                                                                                                                    N.cond (N.eq ((N.rd r20 s2 (0, 0, false, 0)).2.1) ((N.rd r20 s3 (0, 0, false, 0)).2.1))
                                                                                                                                                      (some (.inr (.inr false)))
                                                                                                                                                      (some (.inl (N.add .i64 s3 1))))
                                                                                                                                                  none)
                                                                                                                                              none)
                                                                                                                                          none)
                                                                                                                                      none)
                                                                                                                                  (some (.inr (.inl (N.add .i64 s2 1)))))
                                                                                                                              0))
                                                                                                                      none)
                                                                                                                  none))
                                                                                                          none)
                                                                                                      none)
                                                                                                  none)
                                                                                              none)
                                                                                          (
                                                                                            Option.map Sum.inr
                                                                                              (
                                                                                                N.bind (impl_AreLeaves r20) fun r21 =>
                                                                                                  N.cond r21
                                                                                                    (
                                                                                                      N.bind (impl_HiddenAt r20) fun r22 =>
                                                                                                        some (N.eq (N.len r22) 0))
                                                                                                    (some false))))
                                                                                      0)))
                                                            (
                                                              N.bind (spec_DrawSealBody x0) fun r23 =>
                                                                N.bind (impl_SealBody r23.1 r23.2) fun r24 =>
                                                                  loopF (fun (s4 : Int) =>
                                                                      N.cond (N.lt s4 (N.len r24))
                                                                        (
                                                                          N.ite (0 ≤ s4)
                                                                            (
                                                                              N.ite (s4 < N.len r24)
                                                                                (
                                                                                  N.ite (0 ≤ s4)
                                                                                    (
                                                                                      N.ite (s4 < N.len r23.1)
                                                                                        (
                                                                                          N.cond (N.ne ((N.rd r24 s4 (0, 0, false, 0)).1) (N.rd r23.1 s4 0))
                                                                                            (some (.inr false))
                                                                                            (
                                                                                              N.ite (0 ≤ s4)
                                                                                                (
                                                                                                  N.ite (s4 < N.len r24)
                                                                                                    (
                                                                                                      N.cond ((N.rd r24 s4 (0, 0, false, 0)).2.2.1)
                                                                                                        (some (.inr false))
                                                                                                        (
                                                                                                          loopF (fun (s5 : Int) =>
                                                                                                              N.cond (N.lt s5 s4)
                                                                                                                (
                                                                                                                  N.ite (0 ≤ s4)
                                                                                                                    (
                                                                                                                      N.ite (s4 < N.len r24)
                                                                                                                        (
                                                                                                                          N.ite (0 ≤ s5)
                                                                                                                            (
                                                                                                                              N.ite (s5 < N.len r24)
                                                                                                                                (
                                                                                                                                  N.cond (N.eq ((N.rd r24 s4 (0, 0, false, 0)).2.1) ((N.rd r24 s5 (0, 0, false, 0)).2.1))
                                                                                                                                    (some (.inr (.inr false)))
                                                                                                                                    (some (.inl (N.add .i64 s5 1))))
                                                                                                                                none)
                                                                                                                            none)
                                                                                                                        none)
                                                                                                                    none)
                                                                                                                (some (.inr (.inl (N.add .i64 s4 1)))))
                                                                                                            0))
                                                                                                    none)
                                                                                                none))
                                                                                        none)
                                                                                    none)
                                                                                none)
                                                                            none)
                                                                        (
                                                                          Option.map Sum.inr
                                                                            (
                                                                              N.bind (impl_AreLeaves r24) fun r25 =>
                                                                                N.cond r25
                                                                                  (
                                                                                    N.bind (impl_HiddenAt r24) fun r26 =>
                                                                                      some (N.eq (N.len r26) 0))
                                                                                  (some false))))
                                                                    0))))
                                            0)))))
                (
                  N.bind (impl_SealRoot r3) fun r27 =>
                    N.bind (impl_SealRoot r2.1) fun r28 =>
                      N.cond (N.ne r27 r28)
                        (some false)
                        (
                          N.cond (N.ne (N.len r3) (N.len r2.1))
                            (some false)
                            (
                              loopF (fun (s6 : Int) =>
                                  N.cond (N.lt s6 (N.len r2.1))
                                    (
                                      N.bind (laws_contains r2.2 s6) fun r29 =>
                                        N.cond r29
                                          (
                                            N.ite (0 ≤ s6)
                                              (
                                                N.ite (s6 < N.len r3)
                                                  (
                                                    N.cond (N.not ((N.rd r3 s6 (0, 0, false, 0)).2.2.1))
                                                      (some (.inr false))
                                                      (
                                                        N.ite (0 ≤ s6)
                                                          (
                                                            N.ite (s6 < N.len r3)
                                                              (
                                                                N.cond (N.ne ((N.rd r3 s6 (0, 0, false, 0)).1) 0)
                                                                  (some (.inr false))
                                                                  (
                                                                    N.ite (0 ≤ s6)
                                                                      (
                                                                        N.ite (s6 < N.len r3)
                                                                          (
                                                                            N.cond (N.ne ((N.rd r3 s6 (0, 0, false, 0)).2.1) 0)
                                                                              (some (.inr false))
                                                                              (
                                                                                N.ite (0 ≤ s6)
                                                                                  (
                                                                                    N.ite (s6 < N.len r3)
                                                                                      (
                                                                                        N.ite (0 ≤ s6)
                                                                                          (
                                                                                            N.ite (s6 < N.len r2.1)
                                                                                              (
                                                                                                N.cond (N.ne ((N.rd r3 s6 (0, 0, false, 0)).2.2.2) ((N.rd r2.1 s6 (0, 0, false, 0)).2.2.2))
                                                                                                  (some (.inr false))
                                                                                                  (
                                                                                                    N.bind (laws_contains r2.2 s6) fun r30 =>
                                                                                                      N.cond (N.not r30)
                                                                                                        (
                                                                                                          N.ite (0 ≤ s6)
                                                                                                            (
                                                                                                              N.ite (s6 < N.len r3)
                                                                                                                (
                                                                                                                  N.ite (0 ≤ s6)
                                                                                                                    (
                                                                                                                      N.ite (s6 < N.len r2.1)
                                                                                                                        (
                                                                                                                          N.cond (N.not (N.both (N.eq ((N.rd r3 s6 (0, 0, false, 0)).1) ((N.rd r2.1 s6 (0, 0, false, 0)).1)) (N.both (N.eq ((N.rd r3 s6 (0, 0, false, 0)).2.1) ((N.rd r2.1 s6 (0, 0, false, 0)).2.1)) (N.both (N.eqB ((N.rd r3 s6 (0, 0, false, 0)).2.2.1) ((N.rd r2.1 s6 (0, 0, false, 0)).2.2.1)) (N.eq ((N.rd r3 s6 (0, 0, false, 0)).2.2.2) ((N.rd r2.1 s6 (0, 0, false, 0)).2.2.2))))))
                                                                                                                            (some (.inr false))
                                                                                                                            (some (.inl (N.add .i64 s6 1))))
                                                                                                                        none)
                                                                                                                    none)
                                                                                                                none)
                                                                                                            none)
                                                                                                        (some (.inl (N.add .i64 s6 1)))))
                                                                                              none)
                                                                                          none)
                                                                                      none)
                                                                                  none))
                                                                          none)
                                                                      none))
                                                              none)
                                                          none))
                                                  none)
                                              none)
                                          (
                                            N.bind (laws_contains r2.2 s6) fun r31 =>
                                              N.cond (N.not r31)
                                                (
                                                  N.ite (0 ≤ s6)
                                                    (
                                                      N.ite (s6 < N.len r3)
                                                        (
                                                          N.ite (0 ≤ s6)
                                                            (
                                                              N.ite (s6 < N.len r2.1)
                                                                (
                                                                  N.cond (N.not (N.both (N.eq ((N.rd r3 s6 (0, 0, false, 0)).1) ((N.rd r2.1 s6 (0, 0, false, 0)).1)) (N.both (N.eq ((N.rd r3 s6 (0, 0, false, 0)).2.1) ((N.rd r2.1 s6 (0, 0, false, 0)).2.1)) (N.both (N.eqB ((N.rd r3 s6 (0, 0, false, 0)).2.2.1) ((N.rd r2.1 s6 (0, 0, false, 0)).2.2.1)) (N.eq ((N.rd r3 s6 (0, 0, false, 0)).2.2.2) ((N.rd r2.1 s6 (0, 0, false, 0)).2.2.2))))))
                                                                    (some (.inr false))
                                                                    (some (.inl (N.add .i64 s6 1))))
                                                                none)
                                                            none)
                                                        none)
                                                    none)
                                                (some (.inl (N.add .i64 s6 1)))))
                                    (
                                      Option.map Sum.inr
                                        (
                                          N.bind (spec_DrawIsRedactionOf x0) fun r32 =>
                                            N.bind (impl_IsRedactionOf r32.1 r32.2) fun r33 =>
                                              N.cond r33
                                                (
                                                  N.bind (impl_SealRoot r32.1) fun r34 =>
                                                    N.bind (impl_SealRoot r32.2) fun r35 =>
                                                      N.cond (N.ne r34 r35)
                                                        (some false)
                                                        (
                                                          N.bind (impl_HiddenAt r32.2) fun r36 =>
                                                            N.bind (impl_HiddenAt r32.1) fun r37 =>
                                                              N.bind (laws_within r36 r37) fun r38 =>
                                                                N.cond (N.not r38)
                                                                  (some false)
                                                                  (
                                                                    N.bind (spec_DrawSealBody x0) fun r39 =>
                                                                      N.bind (impl_SealBody r39.1 r39.2) fun r40 =>
                                                                        loopF (fun (s7 : Int) =>
                                                                            N.cond (N.lt s7 (N.len r40))
                                                                              (
                                                                                N.ite (0 ≤ s7)
                                                                                  (
                                                                                    N.ite (s7 < N.len r40)
                                                                                      (
                                                                                        N.ite (0 ≤ s7)
                                                                                          (
                                                                                            N.ite (s7 < N.len r39.1)
                                                                                              (
                                                                                                N.cond (N.ne ((N.rd r40 s7 (0, 0, false, 0)).1) (N.rd r39.1 s7 0))
                                                                                                  (some (.inr false))
                                                                                                  (
                                                                                                    N.ite (0 ≤ s7)
                                                                                                      (
                                                                                                        N.ite (s7 < N.len r40)
                                                                                                          (
                                                                                                            N.cond ((N.rd r40 s7 (0, 0, false, 0)).2.2.1)
                                                                                                              (some (.inr false))
                                                                                                              (
                                                                                                                loopF (fun (s8 : Int) =>
                                                                                                                    N.cond (N.lt s8 s7)
                                                                                                                      (
                                                                                                                        N.ite (0 ≤ s7)
                                                                                                                          (
                                                                                                                            N.ite (s7 < N.len r40)
                                                                                                                              (
                                                                                                                                N.ite (0 ≤ s8)
                                                                                                                                  (
                                                                                                                                    N.ite (s8 < N.len r40)
                                                                                                                                      (
                                                                                                                                        N.cond (N.eq ((N.rd r40 s7 (0, 0, false, 0)).2.1) ((N.rd r40 s8 (0, 0, false, 0)).2.1))
                                                                                                                                          (some (.inr (.inr false)))
                                                                                                                                          (some (.inl (N.add .i64 s8 1))))
                                                                                                                                      none)
                                                                                                                                  none)
                                                                                                                              none)
                                                                                                                          none)
                                                                                                                      (some (.inr (.inl (N.add .i64 s7 1)))))
                                                                                                                  0))
                                                                                                          none)
                                                                                                      none))
                                                                                              none)
                                                                                          none)
                                                                                      none)
                                                                                  none)
                                                                              (
                                                                                Option.map Sum.inr
                                                                                  (
                                                                                    N.bind (impl_AreLeaves r40) fun r41 =>
                                                                                      N.cond r41
                                                                                        (
                                                                                          N.bind (impl_HiddenAt r40) fun r42 =>
                                                                                            some (N.eq (N.len r42) 0))
                                                                                        (some false))))
                                                                          0)))
                                                (
                                                  N.bind (spec_DrawSealBody x0) fun r43 =>
                                                    N.bind (impl_SealBody r43.1 r43.2) fun r44 =>
                                                      loopF (fun (s9 : Int) =>
                                                          N.cond (N.lt s9 (N.len r44))
                                                            (
                                                              N.ite (0 ≤ s9)
                                                                (
                                                                  N.ite (s9 < N.len r44)
                                                                    (
                                                                      N.ite (0 ≤ s9)
                                                                        (
                                                                          N.ite (s9 < N.len r43.1)
                                                                            (
                                                                              N.cond (N.ne ((N.rd r44 s9 (0, 0, false, 0)).1) (N.rd r43.1 s9 0))
                                                                                (some (.inr false))
                                                                                (
                                                                                  N.ite (0 ≤ s9)
                                                                                    (
                                                                                      N.ite (s9 < N.len r44)
                                                                                        (
                                                                                          N.cond ((N.rd r44 s9 (0, 0, false, 0)).2.2.1)
                                                                                            (some (.inr false))
                                                                                            (
                                                                                              loopF (fun (s10 : Int) =>
                                                                                                  N.cond (N.lt s10 s9)
                                                                                                    (
                                                                                                      N.ite (0 ≤ s9)
                                                                                                        (
                                                                                                          N.ite (s9 < N.len r44)
                                                                                                            (
                                                                                                              N.ite (0 ≤ s10)
                                                                                                                (
                                                                                                                  N.ite (s10 < N.len r44)
                                                                                                                    (
                                                                                                                      N.cond (N.eq ((N.rd r44 s9 (0, 0, false, 0)).2.1) ((N.rd r44 s10 (0, 0, false, 0)).2.1))
                                                                                                                        (some (.inr (.inr false)))
                                                                                                                        (some (.inl (N.add .i64 s10 1))))
                                                                                                                    none)
                                                                                                                none)
                                                                                                            none)
                                                                                                        none)
                                                                                                    (some (.inr (.inl (N.add .i64 s9 1)))))
                                                                                                0))
                                                                                        none)
                                                                                    none))
                                                                            none)
                                                                        none)
                                                                    none)
                                                                none)
                                                            (
                                                              Option.map Sum.inr
                                                                (
                                                                  N.bind (impl_AreLeaves r44) fun r45 =>
                                                                    N.cond r45
                                                                      (
                                                                        N.bind (impl_HiddenAt r44) fun r46 =>
                                                                          some (N.eq (N.len r46) 0))
                                                                      (some false))))
                                                        0))))
                                0))))

end D
end Go.Sh
set_option linter.unusedVariables false
set_option linter.unusedSimpArgs false
namespace Go.Sh
open Go
/-! ## Loops -/
theorem loopN_det {S R : Type} {step : S → Option (S ⊕ R)} : ∀ {n m : Nat} {s : S} {a b : R}, loopN step n s = some a → loopN step m s = some b → a = b
  | 0, _, _, _, _, h, _ => by simp [loopN] at h
  | _ + 1, 0, _, _, _, _, h => by simp [loopN] at h
  | n + 1, m + 1, s, a, b, h1, h2 => by
    simp only [loopN] at h1 h2
    split at h1
    · cases h1
    · rename_i s' hs; rw [hs] at h2; exact loopN_det h1 h2
    · rename_i r hr; rw [hr] at h2; simp at h1 h2; rw [← h1, ← h2]

theorem loopF_of {S R : Type} {step : S → Option (S ⊕ R)} {s : S} {n : Nat} {r : R} (h : loopN step n s = some r) : loopF step s = some r := by
  have hx : ∃ n r, loopN step n s = some r := ⟨n, r, h⟩
  unfold loopF
  rw [dif_pos hx]
  obtain ⟨m, hm⟩ := Classical.choose_spec hx |> fun h => (⟨_, Classical.choose_spec h⟩ : ∃ v, loopN step (Classical.choose hx) s = some v)
  have := Classical.choose_spec (Classical.choose_spec hx)
  rw [loopN_det this h]

theorem loopF_inr {S R : Type} {step : S → Option (S ⊕ R)} {s : S} {r : R} (h : step s = some (.inr r)) : loopF step s = some r :=
  loopF_of (n := 1) (by simp [loopN, h])

theorem loopF_inl {S R : Type} {step : S → Option (S ⊕ R)} {s s' : S} (h : step s = some (.inl s')) : loopF step s = loopF step s' := by
  by_cases hx : ∃ n r, loopN step n s' = some r
  · obtain ⟨n, r, hn⟩ := hx
    rw [loopF_of hn, loopF_of (n := n + 1) (r := r) (by simp [loopN, h, hn])]
  · have hy : ¬ ∃ n r, loopN step n s = some r := by
      rintro ⟨n, r, hn⟩
      cases n with
      | zero => simp [loopN] at hn
      | succ n => simp only [loopN, h] at hn; exact hx ⟨n, r, hn⟩
    unfold loopF
    rw [dif_neg hx, dif_neg hy]

/-- a loop over a list: what each round does -/
def each {α σ R : Type} (body : α → σ → Option (σ ⊕ R)) (fin : σ → Option R) : List α → σ → Option R
  | [], a => fin a
  | x :: xs, a => match body x a with
    | none => none
    | some (.inl a') => each body fin xs a'
    | some (.inr r) => some r

/-- counting up to n -/
theorem loop_upto {σ S R : Type} {step : S → Option (S ⊕ R)} (n : Nat) (emb : Nat → σ → S) (st : Nat → σ) (r : R)
    (hstep : ∀ k < n, step (emb k (st k)) = some (.inl (emb (k + 1) (st (k + 1))))) (hend : step (emb n (st n)) = some (.inr r)) : loopF step (emb 0 (st 0)) = some r := by
  have key : ∀ (m k : Nat), k + m = n → loopF step (emb k (st k)) = some r := by
    intro m
    induction m with
    | zero => intro k hk; have : k = n := by omega
              subst this; exact loopF_inr hend
    | succ m ih => intro k hk; rw [loopF_inl (hstep k (by omega))]; exact ih (k + 1) (by omega)
  exact key n 0 (by omega)

/-! ## Words -/
section
variable {R α β : Type}
@[simp] theorem bind_some' (x : β) (f : β → Option R) : N.bind (some x) f = f x := rfl
@[simp] theorem cond_true (x y : Option R) : N.cond true x y = x := rfl
@[simp] theorem cond_false (x y : Option R) : N.cond false x y = y := rfl
theorem cond_if (b : Bool) (x y : Option R) : N.cond b x y = if b = true then x else y := rfl
theorem cond_dec (p : Prop) [Decidable p] (x y : Option R) : N.cond (decide p) x y = if p then x else y := by unfold N.cond; by_cases h : p <;> simp [h]
theorem ite_if (c : Prop) [Decidable c] (x y : Option R) : N.ite c x y = if c then x else y := rfl
theorem nite_pos {c : Prop} [Decidable c] (h : c) (x y : Option R) : N.ite c x y = x := if_pos h
theorem nite_neg {c : Prop} [Decidable c] (h : ¬ c) (x y : Option R) : N.ite c x y = y := if_neg h
theorem lt_d (a b : Int) : N.lt a b = decide (a < b) := rfl
theorem le_d (a b : Int) : N.le a b = decide (a ≤ b) := rfl
theorem gt_d (a b : Int) : N.gt a b = decide (b < a) := rfl
theorem ge_d (a b : Int) : N.ge a b = decide (b ≤ a) := rfl
theorem eq_d (a b : Int) : N.eq a b = decide (a = b) := rfl
theorem ne_d (a b : Int) : N.ne a b = decide (¬ a = b) := by
  unfold N.ne; by_cases h : a = b <;> simp [h]
theorem len_d (xs : List α) : N.len xs = (xs.length : Int) := by simp [N.len]
theorem rd_at (xs : List α) (k : Nat) (hk : k < xs.length) (d : α) : N.rd xs (k : Int) d = xs[k] := by
  simp [N.rd, List.getD, hk]
theorem wrap_id {n : Int} (h1 : -9223372036854775808 ≤ n) (h2 : n < 9223372036854775808) : IntKind.i64.wrap n = n := by
  have e1 : ((2 : Int) ^ IntKind.i64.bits) = 18446744073709551616 := by decide
  have e2 : ((2 : Int) ^ (IntKind.i64.bits - 1)) = 9223372036854775808 := by decide
  have e3 : IntKind.i64.signed = true := rfl
  unfold IntKind.wrap
  rw [e1, e2, e3]
  simp only [Bool.true_and, decide_eq_true_eq]
  split <;> omega
theorem add_id {a b : Int} (h1 : -9223372036854775808 ≤ a + b) (h2 : a + b < 9223372036854775808) : N.add .i64 a b = a + b := wrap_id h1 h2
theorem sub_id {a b : Int} (h1 : -9223372036854775808 ≤ a - b) (h2 : a - b < 9223372036854775808) : N.sub .i64 a b = a - b := wrap_id h1 h2
theorem mul_id {a b : Int} (h1 : -9223372036854775808 ≤ a * b) (h2 : a * b < 9223372036854775808) : N.mul .i64 a b = a * b := wrap_id h1 h2
theorem next_id {k n : Nat} (hk : k < n) (hn : (n : Int) < 9223372036854775808) : N.add .i64 (k : Int) 1 = ((k + 1 : Nat) : Int) := by
  rw [add_id (by omega) (by omega)]; omega
end
end Go.Sh
set_option linter.unusedVariables false
set_option linter.unusedSimpArgs false
namespace Go.Sh
open Go
/-! ## Bounds of data -/
class Data (α : Type) where
  bd : α → Prop
  ok : α → Prop
  le : ∀ x, ok x → bd x
open Data
instance : Data Int := ⟨fun x => -9223372036854775808 ≤ x ∧ x < 9223372036854775808, fun x => -9223372036854775808 ≤ x ∧ x < 9223372036854775808, fun _ h => h⟩
instance : Data Bool := ⟨fun _ => True, fun _ => True, fun _ h => h⟩
instance : Data ByteArray := ⟨fun s => s.size ≤ 4611686018427387904, fun s => s.size ≤ 4611686018427387904, fun _ h => h⟩
instance {α β : Type} [Data α] [Data β] : Data (α × β) := ⟨fun x => bd x.1 ∧ bd x.2, fun x => ok x.1 ∧ ok x.2, fun x h => ⟨le _ h.1, le _ h.2⟩⟩
instance {α : Type} [Data α] : Data (List α) := ⟨fun xs => xs.length ≤ 4611686018427387904 ∧ ∀ x ∈ xs, bd x, fun xs => xs.length ≤ 1048576 ∧ ∀ x ∈ xs, ok x, fun xs h => ⟨by omega, fun x hx => le x (h.2 x hx)⟩⟩
section
variable {α : Type} [Data α]
theorem Data.ok.sub {xs ys : List α} (h : ok xs) (hs : ys.Sublist xs) : ok ys := ⟨Nat.le_trans hs.length_le h.1, fun x hx => h.2 x (hs.subset hx)⟩
end
/-! ## Words, once more -/
section
variable {R α β : Type}
theorem eqB_d (a b : Bool) : N.eqB a b = decide (a = b) := by cases a <;> cases b <;> rfl
theorem not_d (p : Prop) [Decidable p] : N.not (decide p) = decide (¬ p) := by unfold N.not; by_cases h : p <;> simp [h]
theorem both_d (p q : Prop) [Decidable p] [Decidable q] : N.both (decide p) (decide q) = decide (p ∧ q) := by unfold N.both; by_cases h : p <;> by_cases h' : q <;> simp [h, h']
theorem not_b (b : Bool) : N.not b = !b := rfl
theorem cond_not (b : Bool) (x y : Option R) : N.cond (N.not b) x y = N.cond b y x := by cases b <;> rfl

end
end Go.Sh
set_option linter.unusedVariables false
set_option linter.unusedSimpArgs false
set_option synthInstance.maxSize 100000
set_option maxHeartbeats 1000000
namespace Go.Sh
open Go Data
namespace D
end D
end Go.Sh
set_option linter.unusedVariables false
set_option linter.unusedSimpArgs false
set_option synthInstance.maxSize 100000
set_option maxHeartbeats 1000000
namespace Go.Sh
open Go Data
namespace D
theorem spec_l1In_is (a b c : Int) : spec_l1In a b c = some (decide (b ≤ a ∧ a ≤ c)) := by
  unfold spec_l1In
  simp only [ge_d, le_d, cond_dec]
  by_cases h1 : b ≤ a <;> by_cases h2 : a ≤ c <;> simp [h1, h2]
theorem impl_InRange_is (a b c : Int) : impl_InRange a b c = some (decide (b ≤ a ∧ a ≤ c)) := by
  unfold impl_InRange
  simp only [ge_d, le_d, cond_dec]
  by_cases h1 : b ≤ a <;> by_cases h2 : a ≤ c <;> simp [h1, h2]
theorem rem_pos {a b : Int} (ha : 0 ≤ a) : N.rem a b = a % b := by unfold N.rem; exact Int.tmod_eq_emod_of_nonneg ha

theorem mod_core {p q : Int} (h1 : 1 ≤ q) (h2 : q ≤ 1000000000000) : N.rem (N.add .i64 (N.rem p q) q) q = p % q := by
  have hr : -q < p.tmod q ∧ p.tmod q < q := by
    constructor
    · have := Int.lt_tmod_of_pos p (by omega : 0 < q); omega
    · exact Int.tmod_lt_of_pos p (by omega)
  have e : N.add .i64 (N.rem p q) q = p.tmod q + q := add_id (by unfold N.rem; omega) (by unfold N.rem; omega)
  rw [e, rem_pos (by omega)]
  have : p.tmod q % q = p % q := by
    have h := Int.mul_tdiv_add_tmod p q
    conv => rhs; rw [← h]
    simp [Int.add_emod]
  rw [Int.add_emod, Int.emod_self, Int.add_zero, Int.emod_emod_of_dvd _ (Int.dvd_refl q), this]

theorem spec_Mod_is {p q : Int} (h1 : 1 ≤ q) (h2 : q ≤ 1000000000000) : spec_Mod p q = some (p % q) := by
  unfold spec_Mod
  rw [spec_l1In_is, bind_some', not_d, cond_dec, if_neg (by simp; omega), nite_neg (by omega), nite_neg (by omega), mod_core h1 h2]
theorem impl_Mod_is {p q : Int} (h1 : 1 ≤ q) (h2 : q ≤ 1000000000000) : impl_Mod p q = some (p % q) := by
  unfold impl_Mod
  rw [impl_InRange_is, bind_some', not_d, cond_dec, if_neg (by simp; omega), nite_neg (by omega), nite_neg (by omega), mod_core h1 h2]

/-! ## Hash -/
def hash1 (h v : Int) : Int := (h * 1000003 + v % 2147483647 + 13) % 2147483647
def hashP (l : List Int) : Int := l.foldl hash1 11
theorem hash1_in (h v : Int) : 0 ≤ hash1 h v ∧ hash1 h v < 2147483647 := by unfold hash1; omega
theorem hash_fold : ∀ (l : List Int) (h : Int), 0 ≤ h → h < 2147483647 → 0 ≤ l.foldl hash1 h ∧ l.foldl hash1 h < 2147483647
  | [], h, h0, h1 => ⟨h0, h1⟩
  | v :: l, h, _, _ => hash_fold l (hash1 h v) (hash1_in h v).1 (hash1_in h v).2
theorem hashP_in (l : List Int) : 0 ≤ hashP l ∧ hashP l < 2147483647 := hash_fold l 11 (by omega) (by omega)

theorem hash_step {h v : Int} (h0 : 0 ≤ h) (h1 : h < 2147483647) : N.rem (N.add .i64 (N.add .i64 (N.mul .i64 h 1000003) (v % 2147483647)) 13) 2147483647 = hash1 h v := by
  rw [mul_id (by omega) (by omega), add_id (a := h * 1000003) (b := v % 2147483647) (by omega) (by omega), add_id (by omega) (by omega), rem_pos (by omega)]; rfl

def hashBody (mod : Int → Int → Option Int) (l : List Int) (s1 : Int × Int) : Option ((Int × Int) ⊕ Int) :=
  N.cond (N.lt s1.2 (N.len l)) (N.ite (0 ≤ s1.2) (N.ite (s1.2 < N.len l) (N.bind (mod (N.rd l s1.2 0) 2147483647) fun r1 => some (.inl (N.rem (N.add .i64 (N.add .i64 (N.mul .i64 s1.1 1000003) r1) 13) 2147483647, N.add .i64 s1.2 1))) none) none) (some (.inr s1.1))

theorem hash_loop {mod : Int → Int → Option Int} (hm : ∀ v, mod v 2147483647 = some (v % 2147483647)) {l : List Int} (hl : l.length ≤ 4611686018427387904) : loopF (hashBody mod l) (11, 0) = some (hashP l) := by
  refine loop_upto l.length (fun k (h : Int) => (h, (k : Int))) (fun k => (l.take k).foldl hash1 11) (hashP l) (fun k hk => ?_) ?_
  · have hin := hash_fold (l.take k) 11 (by omega) (by omega)
    have hb : hashBody mod l ((l.take k).foldl hash1 11, (k : Int)) = some (.inl (hash1 ((l.take k).foldl hash1 11) l[k], ((k + 1 : Nat) : Int))) := by
      simp only [hashBody, ite_if]; simp only [lt_d, len_d, cond_dec]
      rw [if_pos (by omega), if_pos (by omega), if_pos (by omega), rd_at l k hk, hm, bind_some', hash_step hin.1 hin.2, next_id hk (by omega)]
    simp only [hb, List.take_succ_eq_append_getElem hk, List.foldl_append, List.foldl_cons, List.foldl_nil]
  · simp only [hashBody, lt_d, len_d, cond_dec, List.take_length]
    rw [if_neg (by omega)]; rfl

theorem spec_Hash_is {l : List Int} (hl : l.length ≤ 4611686018427387904) : spec_Hash l = some (hashP l) := hash_loop (mod := spec_Mod) (fun v => spec_Mod_is (by omega) (by omega)) hl
theorem impl_Hash_is {l : List Int} (hl : l.length ≤ 4611686018427387904) : impl_Hash l = some (hashP l) := hash_loop (mod := impl_Mod) (fun v => impl_Mod_is (by omega) (by omega)) hl

end D
end Go.Sh
set_option linter.unusedVariables false
set_option linter.unusedSimpArgs false
set_option synthInstance.maxSize 100000
set_option maxHeartbeats 1000000
namespace Go.Sh
open Go Data
/-! ## Loops that look for something -/
theorem loop_find {α S R : Type} {step : S → Option (S ⊕ R)} (xs : List α) (emb : Nat → S) (p : α → Option R) (r0 : R)
    (hstep : ∀ (k : Nat) (hk : k < xs.length), step (emb k) = some (match p xs[k] with | some r => .inr r | none => .inl (emb (k + 1))))
    (hend : step (emb xs.length) = some (.inr r0)) : loopF step (emb 0) = some ((xs.findSome? p).getD r0) := by
  have key : ∀ (m k : Nat), k + m = xs.length → loopF step (emb k) = some (((xs.drop k).findSome? p).getD r0) := by
    intro m
    induction m with
    | zero =>
      intro k hk
      have hk' : k = xs.length := by omega
      subst hk'
      rw [loopF_inr hend, List.drop_length]; rfl
    | succ m ih =>
      intro k hk
      have hlt : k < xs.length := by omega
      rw [List.drop_eq_getElem_cons hlt, List.findSome?_cons]
      cases hp : p xs[k] with
      | none => rw [loopF_inl (s' := emb (k + 1)) (by rw [hstep k hlt, hp]), ih (k + 1) (by omega)]
      | some r => rw [loopF_inr (r := r) (by rw [hstep k hlt, hp])]; rfl
  simpa using key xs.length 0 (by omega)

theorem loop_any {α S : Type} {step : S → Option (S ⊕ Bool)} (xs : List α) (emb : Nat → S) (p : α → Bool)
    (hstep : ∀ (k : Nat) (hk : k < xs.length), step (emb k) = some (if p xs[k] = true then .inr true else .inl (emb (k + 1))))
    (hend : step (emb xs.length) = some (.inr false)) : loopF step (emb 0) = some (xs.any p) := by
  rw [loop_find xs emb (fun x => if p x = true then some true else none) false (fun k hk => by rw [hstep k hk]; split <;> rfl) hend]
  congr 1
  induction xs with
  | nil => rfl
  | cons x xs ih =>
    clear hstep hend
    induction (x :: xs) with
    | nil => rfl
    | cons y ys ih2 => rw [List.findSome?_cons, List.any_cons]; cases hp : p y <;> simp [ih2]

theorem loop_all {α S : Type} {step : S → Option (S ⊕ Bool)} (xs : List α) (emb : Nat → S) (p : α → Bool)
    (hstep : ∀ (k : Nat) (hk : k < xs.length), step (emb k) = some (if p xs[k] = true then .inl (emb (k + 1)) else .inr false))
    (hend : step (emb xs.length) = some (.inr true)) : loopF step (emb 0) = some (xs.all p) := by
  rw [loop_find xs emb (fun x => if p x = true then none else some false) true (fun k hk => by rw [hstep k hk]; split <;> rfl) hend]
  congr 1
  clear hstep hend
  induction xs with
  | nil => rfl
  | cons y ys ih2 => rw [List.findSome?_cons, List.all_cons]; cases hp : p y <;> simp [ih2]

/-- looking for a place -/
theorem loop_index {α S : Type} {step : S → Option (S ⊕ Int)} (xs : List α) (emb : Nat → S) (p : α → Bool)
    (hstep : ∀ (k : Nat) (hk : k < xs.length), step (emb k) = some (if p xs[k] = true then .inr (k : Int) else .inl (emb (k + 1))))
    (hend : step (emb xs.length) = some (.inr (-1))) : loopF step (emb 0) = some (if xs.any p = true then (xs.findIdx p : Int) else -1) := by
  have key : ∀ (m k : Nat), k + m = xs.length → loopF step (emb k) = some (if (xs.drop k).any p = true then ((k + (xs.drop k).findIdx p : Nat) : Int) else -1) := by
    intro m
    induction m with
    | zero =>
      intro k hk
      have hk' : k = xs.length := by omega
      subst hk'
      rw [loopF_inr hend, List.drop_length]; rfl
    | succ m ih =>
      intro k hk
      have hlt : k < xs.length := by omega
      rw [List.drop_eq_getElem_cons hlt, List.any_cons, List.findIdx_cons]
      cases hp : p xs[k] with
      | false =>
        rw [loopF_inl (s' := emb (k + 1)) (by rw [hstep k hlt, hp]; rfl), ih (k + 1) (by omega)]
        simp only [Bool.false_or, _root_.cond_false]
        split
        · congr 2; omega
        · rfl
      | true => rw [loopF_inr (r := (k : Int)) (by rw [hstep k hlt, hp]; rfl)]; simp
  simpa using key xs.length 0 (by omega)

namespace D
/-! ## Counts -/
end D
end Go.Sh
set_option linter.unusedVariables false
set_option linter.unusedSimpArgs false
set_option synthInstance.maxSize 100000
set_option maxHeartbeats 1000000
namespace Go.Sh
open Go Data
/-- the same test, element by element -/
theorem loop_all2 {α β S : Type} {step : S → Option (S ⊕ Bool)} (xs : List α) (ys : List β) (emb : Nat → S) (p : α → β → Bool) (hl : xs.length = ys.length)
    (hstep : ∀ (k : Nat) (hk : k < xs.length) (hk' : k < ys.length), step (emb k) = some (if p xs[k] ys[k] = true then .inl (emb (k + 1)) else .inr false))
    (hend : step (emb xs.length) = some (.inr true)) : loopF step (emb 0) = some ((xs.zip ys).all fun q => p q.1 q.2) := by
  refine loop_all (xs.zip ys) emb (fun q => p q.1 q.2) (fun k hk => ?_) ?_
  · have h1 : k < xs.length := by simp at hk; omega
    rw [hstep k h1 (by omega)]
    simp only [List.getElem_zip]
  · rw [List.length_zip, ← hl, Nat.min_self]; exact hend

theorem flat_len {α β : Type} {f : α → List β} {m : Nat} : ∀ (xs : List α), (∀ x ∈ xs, (f x).length ≤ m) → (xs.flatMap f).length ≤ xs.length * m
  | [], _ => by simp
  | x :: xs, h => by
    have h1 := flat_len xs fun y hy => h y (by simp [hy])
    have h2 := h x (by simp)
    simp only [List.flatMap_cons, List.length_append, List.length_cons, Nat.add_mul]; omega
theorem take_flat_len {α β : Type} {f : α → List β} {m k : Nat} {xs : List α} (h : ∀ x ∈ xs, (f x).length ≤ m) (hk : k ≤ xs.length) : ((xs.take k).flatMap f).length ≤ k * m := by
  have := flat_len (xs.take k) fun y hy => h y (List.mem_of_mem_take hy)
  simpa [Nat.min_eq_left hk] using this

theorem fitsN {α : Type} {xs ys : List α} {b : Nat} (h : xs.length + ys.length ≤ 100000000) (hb : b ≤ 1000000) : N.fits xs ys b := by
  unfold N.fits
  exact Nat.le_trans (Nat.mul_le_mul h hb) (by decide)

namespace D
end D
end Go.Sh
set_option linter.unusedVariables false
set_option linter.unusedSimpArgs false
set_option synthInstance.maxSize 100000
set_option maxHeartbeats 1000000
namespace Go.Sh
open Go Data
namespace D
/-! ### Leaves -/
def leafBad (x : Leaf) : Bool := if x.2.2.1 = true then decide (¬ x.1 = 0 ∨ ¬ x.2.1 = 0) else decide (¬ (0 ≤ x.1 ∧ x.1 ≤ 255) ∨ ¬ x.2.2.2 = hashP [x.1, x.2.1])
def areLeavesP (l : List Leaf) : Bool := decide (l.length ≤ 100) && !l.any leafBad

theorem impl_AreLeaves_1_is (x : Leaf) : impl_AreLeaves_1 x = some (leafBad x) := by
  unfold impl_AreLeaves_1 leafBad
  rw [impl_InRange_is, bind_some', impl_Hash_is (by simp), bind_some']
  obtain ⟨a, b, c, d⟩ := x
  simp only [ne_d, not_d, cond_dec]
  cases c
  · simp only [cond_false]
    by_cases h1 : 0 ≤ a ∧ a ≤ 255 <;> by_cases h2 : d = hashP [a, b] <;> simp [h1, h2]
  · simp only [cond_true]
    by_cases h1 : a = 0 <;> by_cases h2 : b = 0 <;> simp [h1, h2]

theorem impl_AreLeaves_is {l : List Leaf} (h : l.length ≤ 4611686018427387904) : impl_AreLeaves l = some (areLeavesP l) := by
  unfold impl_AreLeaves slices_ContainsFunc_Leaf_impl_AreLeaves_1 areLeavesP
  have e : slices_IndexFunc_Leaf_impl_AreLeaves_1 l = some (if l.any leafBad = true then (l.findIdx leafBad : Int) else -1) := by
    refine loop_index l (fun k => (k : Int)) leafBad (fun k hk => ?_) ?_
    · have h0 : (0 : Int) ≤ (k : Int) := by omega
      have h1 : (k : Int) < (l.length : Int) := by omega
      simp only [ite_if]; simp only [lt_d, len_d, cond_dec, h0, h1, if_true, rd_at l k hk, impl_AreLeaves_1_is, bind_some', next_id hk (by omega)]
      simp only [cond_if]; split <;> rfl
    · simp only [lt_d, len_d, cond_dec]; rw [if_neg (by omega)]
  rw [e]
  simp only [bind_some', le_d, ge_d, len_d, cond_dec, not_b]
  by_cases h1 : l.length ≤ 100
  · rw [if_pos (by omega)]
    cases h2 : l.any leafBad
    · simp [h1]
    · rw [if_pos rfl]; simp
  · rw [if_neg (by omega)]; simp [h1]

/-! ### The root of a tree of digests -/
def rootF : Nat → List Int → Int
  | 0, _ => 0
  | n + 1, l => match l with
    | [] => 0
    | [x] => x
    | l => hashP [rootF n (l.take ((l.length + 1) / 2)), rootF n (l.drop ((l.length + 1) / 2))]
def rootP (l : List Int) : Int := rootF (l.length + 1) l

theorem half_id {l : List Int} (h : l.length ≤ 4611686018427387904) : N.quo .i64 (N.add .i64 (N.len l) 1) 2 = (((l.length + 1) / 2 : Nat) : Int) := by
  rw [len_d, add_id (by omega) (by omega)]
  unfold N.quo
  have : ((l.length : Int) + 1).tdiv 2 = (((l.length + 1) / 2 : Nat) : Int) := by
    rw [Int.tdiv_eq_ediv_of_nonneg (by omega)]; omega
  rw [this]
  exact wrap_id (by omega) (by omega)

theorem cut_take {α : Type} (l : List α) (k : Nat) : N.cut l 0 (k : Int) = l.take k := by simp [N.cut]
theorem cut_drop {α : Type} (l : List α) (k : Nat) : N.cut l (k : Int) (N.len l) = l.drop k := by simp [N.cut, N.len]

theorem root_step {hash : List Int → Option Int} (hh : ∀ a b, hash [a, b] = some (hashP [a, b])) {rec : List Int → Option Int} {n : Nat} {l : List Int} (h : l.length ≤ 4611686018427387904) (hr : ∀ m : List Int, m.length < l.length → rec m = some (rootF n m)) :
    (N.cond (N.eq (N.len l) 0) (some 0) (N.cond (N.eq (N.len l) 1) (N.ite (0 < N.len l) (some (N.rd l 0 0)) none) (N.ite (0 ≤ N.quo .i64 (N.add .i64 (N.len l) 1) 2) (N.ite (N.quo .i64 (N.add .i64 (N.len l) 1) 2 ≤ N.len l) (N.bind (rec (N.cut l 0 (N.quo .i64 (N.add .i64 (N.len l) 1) 2))) fun r1 => N.ite (0 ≤ N.quo .i64 (N.add .i64 (N.len l) 1) 2) (N.ite (N.quo .i64 (N.add .i64 (N.len l) 1) 2 ≤ N.len l) (N.ite (N.len l ≤ N.len l) (N.bind (rec (N.cut l (N.quo .i64 (N.add .i64 (N.len l) 1) 2) (N.len l))) fun r2 => N.bind (hash [r1, r2]) fun r3 => some r3) none) none) none) none) none))) = some (rootF (n + 1) l) := by
  rw [half_id h, cut_take, cut_drop]
  match l, h, hr with
  | [], _, _ => rfl
  | [x], _, _ => rfl
  | x :: y :: l, h, hr =>
    have e0 : N.len (x :: y :: l) = ((l.length + 2 : Nat) : Int) := by simp [N.len]; omega
    rw [hr _ (by simp only [List.length_take, List.length_cons]; omega), hr _ (by simp only [List.length_drop, List.length_cons]; omega)]
    simp only [bind_some', hh, e0, eq_d, cond_dec, ite_if]
    rw [if_neg (by omega), if_neg (by omega), if_pos (by omega), if_pos (by simp only [List.length_cons]; omega), if_pos (by omega), if_pos (by simp only [List.length_cons]; omega), if_pos (by omega)]
    rfl

theorem impl_RootOf_f_is : ∀ (n : Nat) (l : List Int), l.length < n → l.length ≤ 4611686018427387904 → impl_RootOf_f n l = some (rootF n l)
  | 0, l, h, _ => by omega
  | n + 1, l, h, hl => root_step (hash := impl_Hash) (fun a b => impl_Hash_is (by simp)) (rec := impl_RootOf_f n) hl fun m hm => impl_RootOf_f_is n m (by omega) (by omega)
theorem impl_RootOf_is {l : List Int} (h : l.length ≤ 4611686018427387904) : impl_RootOf l = some (rootP l) := impl_RootOf_f_is _ l (by omega) h

def sealsP (l : List Leaf) : List Int := l.flatMap fun x => [x.2.2.2]
theorem seals_len (l : List Leaf) : (sealsP l).length = l.length := by
  unfold sealsP; induction l with
  | nil => rfl
  | cons x l ih => simp [List.flatMap_cons, ih]
theorem impl_SealRoot_is {l : List Leaf} (h : ok l) : impl_SealRoot l = some (rootP (sealsP l)) := by
  have hl := h.1
  refine loop_upto (r := rootP (sealsP l)) l.length (fun k (a : List Int) => (a, (k : Int))) (fun k => (l.take k).flatMap fun x => [x.2.2.2]) (fun k hk => ?_) ?_
  · have h0 : (0 : Int) ≤ (k : Int) := by omega
    have h1 : (k : Int) < (l.length : Int) := by omega
    have h2 := take_flat_len (f := fun x : Leaf => [x.2.2.2]) (m := 1) (xs := l) (fun _ _ => by simp) (Nat.le_of_lt hk)
    simp only [ite_if]; simp only [lt_d, len_d, cond_dec, h0, h1, if_true, rd_at l k hk, next_id hk (by omega)]
    rw [if_pos (fitsN (by show (List.flatMap (fun x : Leaf => [x.2.2.2]) (l.take k)).length + 1 ≤ 100000000; omega) (by omega)), List.take_succ_eq_append_getElem hk, List.flatMap_append]; simp [N.app]
  · simp only [lt_d, len_d, cond_dec, List.take_length]; rw [if_neg (by omega)]
    rw [show (l.flatMap fun x => [x.2.2.2]) = sealsP l from rfl, impl_RootOf_is (by rw [seals_len]; omega)]; rfl
/-! ### Redactions -/
def redP (x y : Leaf) : Bool := decide (x.2.2.2 = y.2.2.2) && (x.2.2.1 || !y.2.2.1)
def isRedP (l m : List Leaf) : Bool := areLeavesP l && areLeavesP m && decide (l.length = m.length) && (l.zip m).all fun q => redP q.1 q.2
theorem impl_IsRedactionOf_is {l m : List Leaf} (hl : ok l) (hm : ok m) : impl_IsRedactionOf l m = some (isRedP l m) := by
  have h1 := hl.1; have h2 := hm.1
  unfold impl_IsRedactionOf isRedP
  have e1 : ∀ x y, impl_IsRedactionOf_1 x y = some (redP x y) := fun x y => by
    obtain ⟨a, b, c, d⟩ := x; obtain ⟨a', b', c', d'⟩ := y
    unfold impl_IsRedactionOf_1 redP
    simp only [eq_d, cond_dec, not_b]
    by_cases h : d = d' <;> cases c <;> simp [h]
  have e : slices_EqualFunc_Leaf_impl_IsRedactionOf_1 l m = some (decide (l.length = m.length) && (l.zip m).all fun q => redP q.1 q.2) := by
    unfold slices_EqualFunc_Leaf_impl_IsRedactionOf_1
    simp only [ne_d, len_d, cond_dec]
    by_cases hlm : l.length = m.length
    · rw [if_neg (by omega)]
      refine (loop_all2 l m (fun k => ((k : Nat) : Int)) redP hlm (fun k hk hk' => ?_) ?_).trans (by simp [hlm])
      · have h0 : (0 : Int) ≤ (k : Int) := by omega
        have h3 : (k : Int) < (l.length : Int) := by omega
        have h4 : (k : Int) < (m.length : Int) := by omega
        simp only [ite_if]; simp only [lt_d, len_d, cond_dec, h0, h3, h4, if_true, rd_at l k hk, rd_at m k hk', e1, bind_some', next_id hk (by omega)]
        cases redP l[k] m[k] <;> rfl
      · simp only [lt_d, len_d, cond_dec]; rw [if_neg (by omega)]
    · rw [if_pos (by omega)]; simp [hlm]
  rw [impl_AreLeaves_is (by omega), impl_AreLeaves_is (by omega), e]
  simp only [bind_some']
  cases areLeavesP l <;> cases areLeavesP m <;> simp

theorem seals_zip {l m : List Leaf} (h : l.length = m.length) : decide (sealsP l = sealsP m) = (l.zip m).all fun q => decide (q.1.2.2.2 = q.2.2.2.2) := by
  induction l generalizing m with
  | nil => cases m with
    | nil => rfl
    | cons _ _ => simp at h
  | cons x l ih => cases m with
    | nil => simp at h
    | cons y m =>
      simp only [List.zip_cons_cons, List.all_cons, ← ih (m := m) (by simpa using h)]
      simp only [sealsP, List.flatMap_cons, List.cons_append, List.nil_append, List.cons.injEq]
      by_cases h1 : x.2.2.2 = y.2.2.2
      · simp only [h1, true_and, decide_true, Bool.true_and]; exact decide_eq_decide.2 Iff.rfl
      · simp [h1]
end D
end Go.Sh
set_option linter.unusedVariables false
set_option linter.unusedSimpArgs false
set_option synthInstance.maxSize 100000
set_option maxHeartbeats 1000000
namespace Go.Sh
open Go Data
namespace D
end D
end Go.Sh
set_option linter.unusedVariables false
set_option linter.unusedSimpArgs false
set_option synthInstance.maxSize 100000
set_option maxHeartbeats 1000000
namespace Go.Sh
open Go Data
theorem rd_set {α : Type} {xs : List α} {i : Nat} (h : i < xs.length) (v d : α) : N.rd (N.set xs (i : Int) v) (i : Int) d = v := by simp [N.rd, N.set, List.getD, h]
namespace D
end D
end Go.Sh
set_option linter.unusedVariables false
set_option linter.unusedSimpArgs false
set_option synthInstance.maxSize 100000
set_option maxHeartbeats 1000000
namespace Go.Sh
open Go Data
namespace D
/-! ### Hidden leaves -/
def hiddenAtF : List Leaf → Nat → List Int
  | [], _ => []
  | x :: xs, k => (if x.2.2.1 = true then [(k : Int)] else []) ++ hiddenAtF xs (k + 1)
theorem hiddenAtF_app : ∀ (xs ys : List Leaf) (k : Nat), hiddenAtF (xs ++ ys) k = hiddenAtF xs k ++ hiddenAtF ys (k + xs.length)
  | [], ys, k => by simp [hiddenAtF]
  | x :: xs, ys, k => by simp only [List.cons_append, hiddenAtF, hiddenAtF_app xs ys, List.length_cons, List.append_assoc]; rw [show k + 1 + xs.length = k + (xs.length + 1) by omega]
theorem hiddenAtF_len : ∀ (xs : List Leaf) (k : Nat), (hiddenAtF xs k).length ≤ xs.length
  | [], _ => by simp [hiddenAtF]
  | x :: xs, k => by have := hiddenAtF_len xs (k + 1); simp only [hiddenAtF, List.length_append, List.length_cons]; split <;> simp <;> omega
theorem hiddenAtF_in : ∀ (xs : List Leaf) (k : Nat), ∀ y ∈ hiddenAtF xs k, 0 ≤ y ∧ y < ((k + xs.length : Nat) : Int)
  | [], _, y, h => by simp [hiddenAtF] at h
  | x :: xs, k, y, h => by
    simp only [hiddenAtF, List.mem_append] at h
    rcases h with h | h
    · split at h
      · simp only [List.mem_singleton] at h; subst h; simp only [List.length_cons]; omega
      · cases h
    · have := hiddenAtF_in xs (k + 1) y h; simp only [List.length_cons]; omega
def hiddenAtP (l : List Leaf) : List Int := hiddenAtF l 0
theorem hiddenAt_ok {l : List Leaf} (h : ok l) : ok (hiddenAtP l) := by
  have := h.1; have h2 := hiddenAtF_len l 0
  refine ⟨by unfold hiddenAtP; omega, fun y hy => ?_⟩
  have := hiddenAtF_in l 0 y hy
  show -9223372036854775808 ≤ y ∧ y < 9223372036854775808
  omega
theorem impl_HiddenAt_is {l : List Leaf} (h : ok l) : impl_HiddenAt l = some (hiddenAtP l) := by
  have hl := h.1
  refine loop_upto (r := hiddenAtP l) l.length (fun k (a : List Int) => (a, (k : Int))) (fun k => hiddenAtF (l.take k) 0) (fun k hk => ?_) ?_
  · have h0 : (0 : Int) ≤ (k : Int) := by omega
    have h1 : (k : Int) < (l.length : Int) := by omega
    have h2 := hiddenAtF_len (l.take k) 0
    simp only [List.length_take] at h2
    simp only [ite_if]; simp only [lt_d, len_d, cond_dec, h0, h1, if_true, rd_at l k hk, next_id hk (by omega)]
    rw [if_pos (fitsN (by show (hiddenAtF (l.take k) 0).length + 1 ≤ 100000000; omega) (by omega)), List.take_succ_eq_append_getElem hk, hiddenAtF_app, List.length_take, Nat.min_eq_left (by omega)]
    simp only [cond_if, hiddenAtF, Nat.zero_add, List.append_nil]
    split
    · rfl
    · simp
  · simp only [lt_d, len_d, cond_dec, List.take_length]; rw [if_neg (by omega)]; rfl
/-! ### Hiding -/
theorem slices_Clone_Leaf_is {l : List Leaf} (h : ok l) : slices_Clone_Leaf l = some l := by
  have hl := h.1
  unfold slices_Clone_Leaf N.nilc
  rw [nite_pos (fitsN (by simp; omega) (by omega))]
  cases l with
  | nil => simp [N.isE, N.app]
  | cons x l => simp [N.isE, N.app]
def hide1 (out : List Leaf) (i : Int) : List Leaf := if 0 ≤ i ∧ i < (out.length : Int) then N.set out i (0, 0, true, (N.rd out i (0, 0, false, 0)).2.2.2) else out
def hideP (l : List Leaf) (at_ : List Int) : List Leaf := at_.foldl hide1 l
theorem hide1_len (out : List Leaf) (i : Int) : (hide1 out i).length = out.length := by unfold hide1; split <;> simp [N.set]
theorem hide_len : ∀ (a : List Int) (out : List Leaf), (a.foldl hide1 out).length = out.length
  | [], _ => rfl
  | i :: a, out => by rw [List.foldl_cons, hide_len a, hide1_len]
/-- the seals stay -/
theorem hide1_seal (out : List Leaf) (i j : Int) : (N.rd (hide1 out i) j (0, 0, false, 0)).2.2.2 = (N.rd out j (0, 0, false, 0)).2.2.2 := by
  unfold hide1
  split
  · rename_i h
    simp only [N.rd, N.set, List.getD_eq_getElem?_getD, List.getElem?_set]
    split
    · rename_i e
      rw [if_pos (by omega)]
      simp [e]
    · rfl
  · rfl
theorem hide_seal : ∀ (a : List Int) (out : List Leaf) (j : Int), (N.rd (a.foldl hide1 out) j (0, 0, false, 0)).2.2.2 = (N.rd out j (0, 0, false, 0)).2.2.2
  | [], _, _ => rfl
  | i :: a, out, j => by rw [List.foldl_cons, hide_seal a, hide1_seal]
theorem impl_HideLeaves_is {l : List Leaf} {a : List Int} (h : ok l) (ha : ok a) : impl_HideLeaves l a = some (hideP l a) := by
  have hl := h.1; have hl2 := ha.1
  unfold impl_HideLeaves
  rw [slices_Clone_Leaf_is h, bind_some']
  refine loop_upto (r := hideP l a) a.length (fun k (out : List Leaf) => ((k : Int), out)) (fun k => (a.take k).foldl hide1 l) (fun k hk => ?_) ?_
  · have h0 : (0 : Int) ≤ (k : Int) := by omega
    have h1 : (k : Int) < (a.length : Int) := by omega
    simp only [ite_if]; simp only [lt_d, ge_d, len_d, cond_dec, h0, h1, if_true, rd_at a k hk, next_id hk (by omega)]
    rw [List.take_succ_eq_append_getElem hk, List.foldl_append, List.foldl_cons, List.foldl_nil]
    generalize (a.take k).foldl hide1 l = out
    unfold hide1
    by_cases c1 : 0 ≤ a[k] <;> by_cases c2 : a[k] < (out.length : Int) <;> simp [c1, c2]
  · simp only [lt_d, len_d, cond_dec, List.take_length]; rw [if_neg (by omega)]; rfl
theorem spec_HideLeaves_is {l : List Leaf} {a : List Int} (h : ok l) (ha : ok a) : spec_HideLeaves l a = some (hideP l a) := by
  have hl := h.1; have hl2 := ha.1
  unfold spec_HideLeaves
  rw [nite_pos (fitsN (by simp; omega) (by omega))]
  refine loop_upto (r := hideP l a) a.length (fun k (out : List Leaf) => ((k : Int), out)) (fun k => (a.take k).foldl hide1 l) (fun k hk => ?_) ?_
  · have h0 : (0 : Int) ≤ (k : Int) := by omega
    have h1 : (k : Int) < (a.length : Int) := by omega
    have hs := hide_seal (a.take k) l
    have hn := hide_len (a.take k) l
    simp only [ite_if]; simp only [lt_d, ge_d, len_d, cond_dec, h0, h1, if_true, rd_at a k hk, spec_l1In_is, bind_some', sub_id (a := (l.length : Int)) (b := 1) (by omega) (by omega), next_id hk (by omega), ← hs a[k]]
    rw [List.take_succ_eq_append_getElem hk, List.foldl_append, List.foldl_cons, List.foldl_nil]
    rw [← hn]
    generalize (a.take k).foldl hide1 l = out
    unfold hide1
    by_cases c1 : 0 ≤ a[k] <;> by_cases c2 : a[k] < (out.length : Int)
    · rw [if_pos (by omega), if_pos (by omega)]; simp [c1, c2]
    · rw [if_neg (by omega), if_neg (by omega)]
    · rw [if_neg (by omega), if_neg (by omega)]
    · rw [if_neg (by omega), if_neg (by omega)]
  · simp only [lt_d, len_d, cond_dec, List.take_length]; rw [if_neg (by omega)]; rfl
theorem hide_ok {l : List Leaf} {a : List Int} (h : ok l) : ok (hideP l a) := by
  refine ⟨by have := h.1; have := hide_len a l; unfold hideP; omega, ?_⟩
  have key : ∀ (a : List Int) (out : List Leaf), (∀ x ∈ out, ok x) → ∀ x ∈ a.foldl hide1 out, ok x := by
    intro a
    induction a with
    | nil => intro out ho; exact ho
    | cons i a ih =>
      intro out ho
      rw [List.foldl_cons]
      refine ih _ fun x hx => ?_
      unfold hide1 at hx
      split at hx
      · rename_i hi
        simp only [N.set] at hx
        rcases List.mem_or_eq_of_mem_set hx with hx | hx
        · exact ho x hx
        · subst hx
          have : (N.rd out i (0, 0, false, 0)) ∈ out := by
            obtain ⟨k, rfl⟩ : ∃ k : Nat, i = (k : Int) := ⟨i.toNat, by omega⟩
            rw [rd_at out k (by omega)]; exact List.getElem_mem _
          have := (ho _ this).2.2.2
          exact ⟨⟨by show (-9223372036854775808 : Int) ≤ 0; omega, by show (0 : Int) < 9223372036854775808; omega⟩, ⟨by show (-9223372036854775808 : Int) ≤ 0; omega, by show (0 : Int) < 9223372036854775808; omega⟩, trivial, this⟩
      · exact ho x hx
  exact key a l h.2
end D
end Go.Sh
set_option linter.unusedVariables false
set_option linter.unusedSimpArgs false
set_option synthInstance.maxSize 100000
set_option maxHeartbeats 1000000
namespace Go.Sh
open Go Data
namespace D
/-! ### Ranges of lists -/
theorem impl_allIn_is {l : List Int} (h : l.length ≤ 4611686018427387904) (a b : Int) : impl_allIn l a b = some (l.all fun x => decide (a ≤ x ∧ x ≤ b)) := by
  refine loop_all l (fun k => ((k : Nat) : Int)) (fun x => decide (a ≤ x ∧ x ≤ b)) (fun k hk => ?_) ?_
  · have h0 : (0 : Int) ≤ (k : Int) := by omega
    have h1 : (k : Int) < (l.length : Int) := by omega
    simp only [ite_if]; simp only [lt_d, len_d, cond_dec, h0, h1, if_true, rd_at l k hk, impl_InRange_is, bind_some', not_d, next_id hk (by omega), decide_eq_true_eq]
    by_cases c : a ≤ l[k] ∧ l[k] ≤ b
    · rw [if_neg (by simpa using c), if_pos c]
    · rw [if_pos c, if_neg c]
  · simp only [lt_d, len_d, cond_dec]; rw [if_neg (by omega)]
theorem spec_l5Bytes_is {l : List Int} (h : l.length ≤ 4611686018427387904) : spec_l5Bytes l = some (l.all fun x => decide (0 ≤ x ∧ x ≤ 255)) := by
  refine loop_all l (fun k => ((k : Nat) : Int)) (fun x => decide (0 ≤ x ∧ x ≤ 255)) (fun k hk => ?_) ?_
  · have h0 : (0 : Int) ≤ (k : Int) := by omega
    have h1 : (k : Int) < (l.length : Int) := by omega
    simp only [ite_if]; simp only [lt_d, len_d, cond_dec, h0, h1, if_true, rd_at l k hk, spec_l1In_is, bind_some', not_d, next_id hk (by omega), decide_eq_true_eq]
    by_cases c : 0 ≤ l[k] ∧ l[k] ≤ 255
    · rw [if_neg (by simpa using c), if_pos c]
    · rw [if_pos c, if_neg c]
  · simp only [lt_d, len_d, cond_dec]; rw [if_neg (by omega)]

/-! ### Sealing a body -/
def sealLeaf (seed : Int) (i : Nat) (n : Int) : Leaf := (n, hashP [seed, (i : Int)], false, hashP [n, hashP [seed, (i : Int)]])
def sealF (seed : Int) : List Int → Nat → List Leaf
  | [], _ => []
  | n :: l, i => sealLeaf seed i n :: sealF seed l (i + 1)
theorem sealF_app (seed : Int) : ∀ (xs ys : List Int) (k : Nat), sealF seed (xs ++ ys) k = sealF seed xs k ++ sealF seed ys (k + xs.length)
  | [], ys, k => by simp [sealF]
  | x :: xs, ys, k => by simp only [List.cons_append, sealF, sealF_app seed xs ys, List.length_cons]; rw [show k + 1 + xs.length = k + (xs.length + 1) by omega]
theorem sealF_len (seed : Int) : ∀ (xs : List Int) (k : Nat), (sealF seed xs k).length = xs.length
  | [], _ => rfl
  | x :: xs, k => by simp [sealF, sealF_len seed xs]
def bodyOk (l : List Int) (seed : Int) : Bool := decide (l.length ≤ 100) && (l.all fun x => decide (0 ≤ x ∧ x ≤ 255)) && decide (1 ≤ seed ∧ seed ≤ 999999)
def sealBodyP (l : List Int) (seed : Int) : List Leaf := if bodyOk l seed = true then sealF seed l 0 else []
theorem seal_loop {hash : List Int → Option Int} (hh : ∀ a b, hash [a, b] = some (hashP [a, b])) {l : List Int} (hl : l.length ≤ 100) (seed : Int) {step : List Leaf × Int → Option ((List Leaf × Int) ⊕ List Leaf)}
    (hstep : ∀ (k : Nat) (hk : k < l.length) (out : List Leaf), out.length = k → step (out, (k : Int)) = some (.inl (out ++ [sealLeaf seed k l[k]], ((k + 1 : Nat) : Int))))
    (hend : ∀ out, step (out, (l.length : Int)) = some (.inr out)) : loopF step ([], 0) = some (sealF seed l 0) := by
  refine loop_upto (r := sealF seed l 0) l.length (fun k (a : List Leaf) => (a, (k : Int))) (fun k => sealF seed (l.take k) 0) (fun k hk => ?_) ?_
  · rw [hstep k hk _ (by rw [sealF_len, List.length_take]; omega), List.take_succ_eq_append_getElem hk, sealF_app, List.length_take, Nat.min_eq_left (by omega)]
    simp [sealF]
  · rw [hend, List.take_length]
theorem impl_SealBody_is {l : List Int} (h : ok l) (seed : Int) : impl_SealBody l seed = some (sealBodyP l seed) := by
  have hl := h.1
  unfold impl_SealBody sealBodyP bodyOk
  rw [impl_allIn_is (by omega), impl_InRange_is, bind_some', bind_some', gt_d, len_d, cond_dec]
  by_cases h1 : l.length ≤ 100
  · rw [if_neg (by omega)]
    simp only [h1, decide_true, Bool.true_and]
    rw [cond_not, cond_not]
    cases hc : l.all fun x => decide (0 ≤ x ∧ x ≤ 255) with
    | false => simp
    | true =>
      rw [cond_true, cond_dec]
      by_cases hs : 1 ≤ seed ∧ seed ≤ 999999
      · rw [if_pos hs, if_pos (by simp [hs])]
        refine seal_loop (hash := impl_Hash) (fun a b => impl_Hash_is (by simp)) h1 seed (fun k hk out ho => ?_) fun out => ?_
        · have h0 : (0 : Int) ≤ (k : Int) := by omega
          have h2 : (k : Int) < (l.length : Int) := by omega
          simp only [ite_if]; simp only [lt_d, len_d, cond_dec, h0, h2, if_true, rd_at l k hk, impl_Hash_is (l := [_, _]) (by simp : 2 ≤ 4611686018427387904), bind_some', next_id hk (by omega)]
          rw [if_pos (fitsN (by show out.length + 1 ≤ 100000000; omega) (by omega))]; rfl
        · simp only [lt_d, len_d, cond_dec]; rw [if_neg (by omega)]
      · rw [if_neg hs, if_neg (by simp only [hs, decide_false, Bool.and_false]; simp)]
  · rw [if_pos (by omega)]; simp [h1]
theorem spec_SealBody_is {l : List Int} (h : ok l) (seed : Int) : spec_SealBody l seed = some (sealBodyP l seed) := by
  have hl := h.1
  unfold spec_SealBody sealBodyP bodyOk
  rw [spec_l5Bytes_is (by omega), spec_l1In_is, bind_some', bind_some', gt_d, len_d, cond_dec]
  by_cases h1 : l.length ≤ 100
  · rw [if_neg (by omega)]
    simp only [h1, decide_true, Bool.true_and]
    rw [cond_not, cond_not]
    cases hc : l.all fun x => decide (0 ≤ x ∧ x ≤ 255) with
    | false => simp
    | true =>
      rw [cond_true, cond_dec]
      by_cases hs : 1 ≤ seed ∧ seed ≤ 999999
      · rw [if_pos hs, if_pos (by simp [hs])]
        refine seal_loop (hash := spec_Hash) (fun a b => spec_Hash_is (by simp)) h1 seed (fun k hk out ho => ?_) fun out => ?_
        · have h0 : (0 : Int) ≤ (k : Int) := by omega
          have h2 : (k : Int) < (l.length : Int) := by omega
          simp only [ite_if]; simp only [lt_d, len_d, cond_dec, h0, h2, if_true, rd_at l k hk, spec_Hash_is (l := [_, _]) (by simp : 2 ≤ 4611686018427387904), bind_some', next_id hk (by omega)]
          rw [if_pos (fitsN (by show out.length + 1 ≤ 100000000; omega) (by omega))]; rfl
        · simp only [lt_d, len_d, cond_dec]; rw [if_neg (by omega)]
      · rw [if_neg hs, if_neg (by simp only [hs, decide_false, Bool.and_false]; simp)]
  · rw [if_pos (by omega)]; simp [h1]
theorem hashP_ok (l : List Int) : ok (hashP l) := by
  have := hashP_in l
  show -9223372036854775808 ≤ hashP l ∧ hashP l < 9223372036854775808
  omega
theorem sealBody_ok {l : List Int} (h : ok l) (seed : Int) : ok (sealBodyP l seed) := by
  unfold sealBodyP
  split
  · refine ⟨by rw [sealF_len]; exact h.1, ?_⟩
    have key : ∀ (l : List Int) (k : Nat), (∀ x ∈ l, ok x) → ∀ y ∈ sealF seed l k, ok y := by
      intro l
      induction l with
      | nil => intro k _ y hy; cases hy
      | cons n l ih =>
        intro k hl y hy
        rcases List.mem_cons.1 hy with rfl | hy
        · exact ⟨hl n (by simp), hashP_ok _, trivial, hashP_ok _⟩
        · exact ih (k + 1) (fun x hx => hl x (by simp [hx])) y hy
    exact key l 0 h.2
  · exact ⟨by simp, fun x hx => by cases hx⟩
end D
end Go.Sh
set_option linter.unusedVariables false
set_option linter.unusedSimpArgs false
set_option synthInstance.maxSize 100000
set_option maxHeartbeats 1000000
namespace Go.Sh
open Go Data
namespace D
end D
end Go.Sh
set_option linter.unusedVariables false
set_option linter.unusedSimpArgs false
set_option synthInstance.maxSize 100000
set_option maxHeartbeats 1000000
namespace Go.Sh
open Go Data
namespace D
end D
end Go.Sh
set_option linter.unusedVariables false
set_option linter.unusedSimpArgs false
set_option synthInstance.maxSize 100000
set_option maxHeartbeats 1000000
namespace Go.Sh
open Go Data
/-! ## What is drawn: it comes back, and keeps its bounds -/
def Gets {α : Type} (P : α → Prop) (r : Option α) : Prop := ∃ x, r = some x ∧ P x
section
variable {α β S R : Type} {P : α → Prop} {Q : R → Prop}
theorem Gets.pure {x : R} (h : Q x) : Gets Q (some x) := ⟨x, rfl, h⟩
theorem Gets.bind {x : Option α} {f : α → Option R} (h : Gets P x) (hf : ∀ a, P a → Gets Q (f a)) : Gets Q (N.bind x f) := by
  obtain ⟨a, rfl, ha⟩ := h; exact hf a ha
theorem Gets.cond {b : Bool} {x y : Option R} (h1 : b = true → Gets Q x) (h2 : b = false → Gets Q y) : Gets Q (N.cond b x y) := by
  unfold N.cond; cases b
  · exact h2 rfl
  · exact h1 rfl
theorem Gets.ite {c : Prop} [Decidable c] {x y : Option R} (hc : c) (h : Gets Q x) : Gets Q (N.ite c x y) := by rw [nite_pos hc]; exact h
theorem Gets.nite {c : Prop} [Decidable c] {x y : Option R} (hc : ¬ c) (h : Gets Q y) : Gets Q (N.ite c x y) := by rw [nite_neg hc]; exact h
theorem Gets.let_ {x : α} {f : α → Option R} (h : Gets Q (f x)) : Gets Q (N.let_ x f) := h
theorem Gets.loop {step : S → Option (S ⊕ R)} (I : S → Prop) (m : S → Nat)
    (hs : ∀ s, I s → Gets (fun r => match r with | .inl s' => I s' ∧ m s' < m s | .inr r => Q r) (step s)) (s : S) (h : I s) : Gets Q (loopF step s) := by
  generalize hn : m s = n
  induction n using Nat.strongRecOn generalizing s with
  | ind n ih =>
    obtain ⟨r, e, hr⟩ := hs s h
    cases r with
    | inl s' => rw [loopF_inl e]; exact ih (m s') (by rw [← hn]; exact hr.2) s' hr.1 rfl
    | inr r => exact ⟨r, loopF_inr e, hr⟩
end
theorem wrap_in (n : Int) : -9223372036854775808 ≤ IntKind.i64.wrap n ∧ IntKind.i64.wrap n < 9223372036854775808 := by
  have e1 : ((2 : Int) ^ IntKind.i64.bits) = 18446744073709551616 := by decide
  have e2 : ((2 : Int) ^ (IntKind.i64.bits - 1)) = 9223372036854775808 := by decide
  have e3 : IntKind.i64.signed = true := rfl
  unfold IntKind.wrap
  rw [e1, e2, e3]
  simp only [Bool.true_and, decide_eq_true_eq]
  split <;> omega
theorem ok_add (a b : Int) : ok (N.add .i64 a b) := wrap_in _
theorem ok_sub (a b : Int) : ok (N.sub .i64 a b) := wrap_in _
theorem ok_num {x : Int} (h1 : -9223372036854775808 ≤ x) (h2 : x < 9223372036854775808) : ok x := ⟨h1, h2⟩
theorem and_255 (a : Int) : 0 ≤ N.and .i64 a 255 ∧ N.and .i64 a 255 ≤ 255 := by
  have h : (BitVec.ofInt 64 a &&& BitVec.ofInt 64 255).toNat ≤ 255 := by
    rw [BitVec.toNat_and]; exact Nat.and_le_right
  have e : N.and .i64 a 255 = (((BitVec.ofInt 64 a &&& BitVec.ofInt 64 255).toNat : Nat) : Int) := by
    show IntKind.i64.wrap _ = _
    exact wrap_id (by show _ ≤ (((BitVec.ofInt 64 a &&& BitVec.ofInt 64 255).toNat : Nat) : Int); omega) (by show (((BitVec.ofInt 64 a &&& BitVec.ofInt 64 255).toNat : Nat) : Int) < _; omega)
  rw [e]; omega

def few {α : Type} [Data α] (n : Nat) (xs : List α) : Prop := xs.length ≤ n ∧ ∀ x ∈ xs, ok x
theorem few.ok {α : Type} [Data α] {n : Nat} {xs : List α} (h : few n xs) (hn : n ≤ 1048576) : ok xs := ⟨Nat.le_trans h.1 hn, h.2⟩
theorem few.app {α : Type} [Data α] {n m : Nat} {xs : List α} {x : α} (h : few n xs) (hx : Data.ok x) (hm : n + 1 ≤ m) : few m (N.app xs [x]) :=
  ⟨by have := h.1; simp [N.app]; omega, fun y hy => by
    rcases List.mem_append.1 hy with hy | hy
    · exact h.2 y hy
    · simp at hy; subst hy; exact hx⟩
theorem few.set {α : Type} [Data α] {n : Nat} {xs : List α} {x : α} {i : Int} (h : few n xs) (hx : Data.ok x) : few n (N.set xs i x) :=
  ⟨by have := h.1; simp [N.set]; omega, fun y hy => by
    rcases List.mem_or_eq_of_mem_set hy with hy | hy
    · exact h.2 y hy
    · subst hy; exact hx⟩
theorem few.rd {α : Type} [Data α] {n : Nat} {xs : List α} {i : Int} {d : α} (h : few n xs) (hd : Data.ok d) : Data.ok (N.rd xs i d) := by
  unfold N.rd
  rw [List.getD_eq_getElem?_getD]
  cases e : xs[i.toNat]? with
  | none => exact hd
  | some x => exact h.2 x (List.mem_of_getElem? e)
/-- count-down loops that add one element each -/
theorem Gets.fill {α C : Type} [Data α] {step : List α × Int × C → Option ((List α × Int × C) ⊕ (List α × C))} {K : C → Prop} {m : Nat} (hm : m ≤ 1000)
    (hs : ∀ xs n c, K c → 0 < n → n ≤ 1000 → few m xs → Gets (fun r => ∃ x c', r = .inl (N.app xs [x], N.sub .i64 n 1, c') ∧ ok x ∧ K c') (step (xs, n, c)))
    (he : ∀ xs n c, n ≤ 0 → step (xs, n, c) = some (.inr (xs, c))) {n : Int} {c : C} (hn0 : 0 ≤ n) (hn : n ≤ m) (hc : K c) :
    Gets (fun r => few m r.1 ∧ K r.2) (loopF step ([], n, c)) := by
  refine Gets.loop (I := fun s => (s.1.length : Int) + s.2.1 ≤ m ∧ 0 ≤ s.2.1 ∧ (∀ x ∈ s.1, ok x) ∧ K s.2.2) (m := fun s => s.2.1.toNat) (fun s h => ?_) _ ⟨by simpa using hn, hn0, fun _ h => (by cases h), hc⟩
  obtain ⟨xs, n, c⟩ := s
  obtain ⟨h1, h2, h3, h4⟩ := h
  simp only at h1 h2 h3 h4
  by_cases hn : 0 < n
  · obtain ⟨r, e, x, c', rfl, hx, hk⟩ := hs xs n c h4 hn (by omega) ⟨by omega, h3⟩
    refine ⟨_, e, ?_⟩
    have e1 : N.sub .i64 n 1 = n - 1 := sub_id (by omega) (by omega)
    simp only [e1]
    refine ⟨⟨by simp [N.app]; omega, by omega, ?_, hk⟩, by omega⟩
    exact (few.app (n := xs.length) ⟨Nat.le_refl _, h3⟩ hx (Nat.le_refl _)).2
  · exact ⟨_, he xs n c (by omega), ⟨by simp only; omega, h3⟩, h4⟩

namespace D
/-! ## The source of bytes -/
def curOk (c : l1Cur) : Prop := 0 ≤ c.2.1 ∧ c.2.1 ≤ (c.1.length : Int) ∧ c.1.length ≤ 1048576

theorem spec_l1New_is {x : List Int} (h : x.length ≤ 1048576) : Gets curOk (spec_l1New x) := by
  refine Gets.loop (I := fun s => 0 ≤ s.2) (m := fun s => x.length - s.2.toNat) (fun s hs => ?_) _ (by show (0 : Int) ≤ 0; omega)
  obtain ⟨a, i⟩ := s
  simp only at hs
  refine Gets.cond (fun h1 => Gets.cond (fun h2 => Gets.ite hs (Gets.ite ?_ (Gets.pure ?_))) fun _ => Gets.pure ⟨by simp only; omega, by simp only; omega, h⟩) fun _ => Gets.pure ⟨by simp only; omega, by simp only; omega, h⟩
  · simpa [N.lt] using h1
  · simp only [lt_d, len_d, decide_eq_true_eq] at h1
    have e : N.add .i64 i 1 = i + 1 := add_id (by omega) (by omega)
    simp only [e]; omega

theorem spec_l1Byte_is {c : l1Cur} (h : curOk c) : Gets (fun r => (0 ≤ r.1 ∧ r.1 ≤ 255) ∧ curOk r.2) (spec_l1Byte c) := by
  obtain ⟨xs, i, s⟩ := c
  obtain ⟨h1, h2, h3⟩ := h
  simp only at h1 h2 h3
  refine Gets.cond (fun h4 => Gets.ite h1 (Gets.ite ?_ (Gets.pure ⟨and_255 _, ?_⟩))) fun _ => Gets.pure ⟨and_255 _, h1, h2, h3⟩
  · simpa [N.lt] using h4
  · simp only [lt_d, len_d, decide_eq_true_eq] at h4
    have e : N.add .i64 i 1 = i + 1 := add_id (by omega) (by omega)
    refine ⟨?_, ?_, h3⟩ <;> simp only [e] <;> omega

theorem spec_l1Below_is {c : l1Cur} (h : curOk c) {n : Int} (h0 : 0 < n) : Gets (fun r => (0 ≤ r.1 ∧ r.1 < n) ∧ curOk r.2) (spec_l1Below c n) := by
  refine Gets.cond (fun h1 => ?_) fun _ => Gets.cond (fun _ => ?_) fun _ => ?_
  · simp only [le_d, decide_eq_true_eq] at h1; omega
  · refine Gets.bind (spec_l1Byte_is h) fun r ⟨h1, h2⟩ => Gets.nite (by omega) (Gets.pure ⟨?_, h2⟩)
    simp only [rem_pos h1.1]; exact ⟨Int.emod_nonneg _ (by omega), Int.emod_lt_of_pos _ h0⟩
  · refine Gets.bind (spec_l1Byte_is h) fun r ⟨h1, h2⟩ => Gets.bind (spec_l1Byte_is h2) fun r3 ⟨h3, h4⟩ => Gets.bind (spec_l1Byte_is h4) fun r4 ⟨h5, h6⟩ => Gets.nite (by omega) (Gets.pure ⟨?_, h6⟩)
    have e1 : N.mul .i64 r.1 65536 = r.1 * 65536 := mul_id (by omega) (by omega)
    have e2 : N.mul .i64 r3.1 256 = r3.1 * 256 := mul_id (by omega) (by omega)
    have e3 : N.add .i64 (r.1 * 65536) (r3.1 * 256) = r.1 * 65536 + r3.1 * 256 := add_id (by omega) (by omega)
    have e4 : N.add .i64 (r.1 * 65536 + r3.1 * 256) r4.1 = r.1 * 65536 + r3.1 * 256 + r4.1 := add_id (by omega) (by omega)
    simp only [e1, e2, e3, e4]
    rw [rem_pos (by omega)]
    exact ⟨Int.emod_nonneg _ (by omega), Int.emod_lt_of_pos _ h0⟩

theorem spec_l1Int_is {c : l1Cur} (h : curOk c) {l : List Int} (hl : 0 < l.length) (hk : ∀ x ∈ l, ok x) : Gets (fun r => (ok r.1 ∧ r.1 ∈ l) ∧ curOk r.2) (spec_l1Int c l) := by
  refine Gets.bind (spec_l1Below_is h (n := N.len l) (by rw [len_d]; omega)) fun r ⟨⟨h1, h2⟩, h3⟩ => Gets.ite h1 (Gets.ite h2 (Gets.pure ⟨?_, h3⟩))
  rw [len_d] at h2
  have e : r.1 = ((r.1.toNat : Nat) : Int) := by omega
  have hm : N.rd l r.1 0 ∈ l := by rw [e, rd_at l r.1.toNat (by omega)]; exact List.getElem_mem _
  exact ⟨hk _ hm, hm⟩

theorem spec_l5Body_is {c : l1Cur} (h : curOk c) : Gets (fun r => few 5 r.1 ∧ curOk r.2) (spec_l5Body c) := by
  refine Gets.bind (spec_l1Below_is h (n := 5) (by omega)) fun r ⟨h1, h2⟩ => ?_
  refine Gets.fill (K := curOk) (m := 5) (by omega) (fun xs n c hc h0 h9 hx => ?_) (fun xs n c hn => ?_) h1.1 (by omega) h2
  · refine Gets.cond (fun _ => ?_) fun hf => ?_
    · refine Gets.bind (spec_l1Below_is hc (n := 9) (by omega)) fun r2 ⟨h3, h4⟩ => Gets.ite (fitsN (by have := hx.1; simp; omega) (by omega)) (Gets.pure ⟨_, _, rfl, ok_num (by omega) (by omega), h4⟩)
    · simp only [gt_d, decide_eq_false_iff_not] at hf; omega
  · simp only [gt_d, cond_dec]; rw [if_neg (by omega)]
end D
end Go.Sh
set_option linter.unusedVariables false
set_option linter.unusedSimpArgs false
set_option synthInstance.maxSize 100000
set_option maxHeartbeats 2000000
namespace Go.Sh
open Go Data
namespace D
end D
end Go.Sh
set_option linter.unusedVariables false
set_option linter.unusedSimpArgs false
set_option synthInstance.maxSize 100000
set_option maxHeartbeats 2000000
namespace Go.Sh
open Go Data
namespace D
/-! ## Leaves drawn -/
theorem spec_l22At_is {c : l1Cur} (h : curOk c) : Gets (fun r => few 8 r.1 ∧ curOk r.2) (spec_l22At c) := by
  refine Gets.bind (spec_l1Below_is h (n := 3) (by omega)) fun r ⟨h1, h2⟩ => ?_
  refine Gets.fill (K := curOk) (m := 8) (by omega) (fun xs n c hc h0 h9 hx => ?_) (fun xs n c hn => ?_) h1.1 (by omega) h2
  · refine Gets.cond (fun _ => ?_) fun hf => ?_
    · exact Gets.bind (spec_l1Below_is hc (n := 7) (by omega)) fun r2 ⟨h3, h4⟩ => Gets.ite (fitsN (by have := hx.1; simp; omega) (by omega)) (Gets.pure ⟨_, _, rfl, ok_sub _ _, h4⟩)
    · simp only [gt_d, decide_eq_false_iff_not] at hf; omega
  · simp only [gt_d, cond_dec]; rw [if_neg (by omega)]
theorem spec_l22Draw_is {c : l1Cur} (h : curOk c) : Gets (fun r => ok r.1 ∧ curOk r.2) (spec_l22Draw c) :=
  Gets.bind (spec_l5Body_is h) fun r ⟨h1, h2⟩ => Gets.bind (spec_l1Below_is h2 (by omega)) fun r2 ⟨h3, h4⟩ => by
    rw [spec_SealBody_is (h1.ok (by omega)), bind_some']
    refine Gets.bind (spec_l22At_is h4) fun r4 ⟨h5, h6⟩ => ?_
    rw [spec_HideLeaves_is (sealBody_ok (h1.ok (by omega)) _) (h5.ok (by omega)), bind_some']
    exact Gets.pure ⟨hide_ok (sealBody_ok (h1.ok (by omega)) _), h6⟩
theorem leaf0 : ok ((0, 0, false, 0) : Leaf) := by
  have z : ok (0 : Int) := ok_num (by omega) (by omega)
  exact ⟨z, z, trivial, z⟩
theorem spec_l22Any_is {c : l1Cur} (h : curOk c) : Gets (fun r => ok r.1 ∧ curOk r.2) (spec_l22Any c) := by
  refine Gets.bind (spec_l22Draw_is h) fun r ⟨h1, h2⟩ => Gets.cond (fun _ => Gets.pure ⟨h1, h2⟩) fun hn => ?_
  simp only [eq_d, decide_eq_false_iff_not] at hn
  have h0 : 0 < N.len r.1 := by rw [len_d] at hn ⊢; omega
  refine Gets.bind (spec_l1Below_is h2 h0) fun r2 ⟨⟨i0, i1⟩, h4⟩ => Gets.bind (spec_l1Below_is h4 (by omega)) fun r3 ⟨_, h6⟩ => ?_
  have hf : few 1048576 r.1 := h1
  have hr : ok (N.rd r.1 r2.1 ((0, 0, false, 0) : Leaf)) := few.rd hf leaf0
  obtain ⟨k1, k2, k3, k4⟩ := hr
  refine Gets.cond (fun _ => ?_) fun _ => Gets.cond (fun _ => ?_) fun _ => Gets.cond (fun _ => ?_) fun _ => Gets.cond (fun _ => ?_) fun _ => Gets.pure ⟨h1, h6⟩
  · exact Gets.ite i0 (Gets.ite i1 (Gets.ite i0 (Gets.ite i1 (Gets.let_ (Gets.pure ⟨hf.set ⟨ok_add _ _, k2, k3, k4⟩, h6⟩)))))
  · exact Gets.ite i0 (Gets.ite i1 (Gets.ite i0 (Gets.ite i1 (Gets.let_ (Gets.pure ⟨hf.set ⟨k1, ok_add _ _, k3, k4⟩, h6⟩)))))
  · exact Gets.ite i0 (Gets.ite i1 (Gets.ite i0 (Gets.ite i1 (Gets.let_ (Gets.pure ⟨hf.set ⟨k1, k2, k3, ok_add _ _⟩, h6⟩)))))
  · exact Gets.ite i0 (Gets.ite i1 (Gets.ite i0 (Gets.ite i1 (Gets.let_ (Gets.pure ⟨hf.set ⟨k1, k2, trivial, k4⟩, h6⟩)))))
theorem spec_l1Once_is {c : l1Cur} (h : curOk c) {n : Int} (h0 : 0 < n) : Gets (fun r => curOk r.2) (spec_l1Once c n) :=
  Gets.bind (spec_l1Below_is h h0) fun r ⟨_, h2⟩ => Gets.pure h2
theorem spec_DrawHideLeaves_is {x : List Int} (h : x.length ≤ 1048576) : Gets (fun r => ok r.1 ∧ ok r.2) (spec_DrawHideLeaves x) :=
  Gets.bind (spec_l1New_is h) fun r h1 => Gets.bind (spec_l22Any_is h1) fun r2 ⟨h2, h3⟩ => Gets.bind (spec_l22At_is h3) fun r3 ⟨h4, h5⟩ => Gets.pure ⟨h2, h4.ok (by omega)⟩
theorem spec_DrawIsRedactionOf_is {x : List Int} (h : x.length ≤ 1048576) : Gets (fun r => ok r.1 ∧ ok r.2) (spec_DrawIsRedactionOf x) :=
  Gets.bind (spec_l1New_is h) fun r h1 => Gets.bind (spec_l22Draw_is h1) fun r2 ⟨h2, h3⟩ => Gets.bind (spec_l22At_is h3) fun r3 ⟨h4, h5⟩ => by
    rw [spec_HideLeaves_is h2 (h4.ok (by omega)), bind_some']
    have hh := hide_ok (a := r3.1) h2
    exact Gets.bind (spec_l1Below_is h5 (by omega)) fun r5 ⟨_, h6⟩ => Gets.cond (fun _ => Gets.pure ⟨h2, hh⟩) fun _ => Gets.cond (fun _ => Gets.bind (spec_l22Any_is h6) fun r6 ⟨h7, h8⟩ => Gets.pure ⟨h7, h2⟩) fun _ => Gets.pure ⟨hh, h2⟩
theorem spec_DrawSealBody_is {x : List Int} (h : x.length ≤ 1048576) : Gets (fun r => ok r.1 ∧ ok r.2) (spec_DrawSealBody x) :=
  Gets.bind (spec_l1New_is h) fun r h1 => Gets.bind (spec_l5Body_is h1) fun r2 ⟨h2, h3⟩ => Gets.bind (spec_l1Once_is h3 (by omega)) fun r3 h4 => Gets.cond
    (fun _ => Gets.bind (spec_l1Int_is h4 (by simp) (by simp [ok])) fun r4 ⟨h5, h6⟩ => Gets.ite (fitsN (by have := h2.1; simp; omega) (by omega)) (Gets.bind (spec_l1Int_is h6 (by simp) (by simp [ok])) fun r5 ⟨h7, h8⟩ =>
      Gets.pure ⟨(few.app (m := 6) h2 h5.1 (by omega)).ok (by omega), h7.1⟩))
    fun _ => Gets.bind (spec_l1Int_is h4 (by simp) (by simp [ok])) fun r5 ⟨h7, h8⟩ => Gets.pure ⟨h2.ok (by omega), h7.1⟩

/-! ## What hiding does, place by place -/
theorem laws_contains_is {l : List Int} (h : l.length ≤ 4611686018427387904) (y : Int) : laws_contains l y = some (decide (y ∈ l)) := by
  refine (loop_any l (fun k => ((k : Nat) : Int)) (fun x => decide (x = y)) (fun k hk => ?_) ?_).trans ?_
  · have h0 : (0 : Int) ≤ (k : Int) := by omega
    have h1 : (k : Int) < (l.length : Int) := by omega
    simp only [ite_if]; simp only [lt_d, len_d, cond_dec, h0, h1, if_true, rd_at l k hk, eq_d, next_id hk (by omega), decide_eq_true_eq]
    split <;> rfl
  · simp only [lt_d, len_d, cond_dec]; rw [if_neg (by omega)]
  · congr 1; rw [Bool.eq_iff_iff]; simp [List.any_eq_true]
theorem laws_within_is {l m : List Int} (h : l.length ≤ 4611686018427387904) (hm : m.length ≤ 4611686018427387904) : laws_within l m = some (l.all fun y => decide (y ∈ m)) := by
  refine loop_all l (fun k => ((k : Nat) : Int)) (fun y => decide (y ∈ m)) (fun k hk => ?_) ?_
  · have h0 : (0 : Int) ≤ (k : Int) := by omega
    have h1 : (k : Int) < (l.length : Int) := by omega
    simp only [ite_if]; simp only [lt_d, len_d, cond_dec, h0, h1, if_true, rd_at l k hk, laws_contains_is hm, bind_some', not_d, next_id hk (by omega), decide_eq_true_eq]
    by_cases c : l[k] ∈ m <;> simp [c]
  · simp only [lt_d, len_d, cond_dec]; rw [if_neg (by omega)]
theorem hide1_rd (out : List Leaf) (i : Int) (k : Nat) (hk : k < out.length) : N.rd (hide1 out i) (k : Int) (0, 0, false, 0) = if (k : Int) = i then (0, 0, true, (N.rd out (k : Int) (0, 0, false, 0)).2.2.2) else N.rd out (k : Int) (0, 0, false, 0) := by
  unfold hide1
  by_cases e : (k : Int) = i
  · subst e
    rw [if_pos (by omega), if_pos rfl, rd_set hk]
  · rw [if_neg e]
    split
    · rename_i hi
      simp only [N.rd, N.set, List.getD_eq_getElem?_getD, List.getElem?_set]
      rw [if_neg (by omega)]
    · rfl
theorem hide_rd : ∀ (a : List Int) (out : List Leaf) (k : Nat), k < out.length → N.rd (a.foldl hide1 out) (k : Int) (0, 0, false, 0) = if (k : Int) ∈ a then (0, 0, true, (N.rd out (k : Int) (0, 0, false, 0)).2.2.2) else N.rd out (k : Int) (0, 0, false, 0)
  | [], out, k, hk => by simp
  | i :: a, out, k, hk => by
    rw [List.foldl_cons, hide_rd a (hide1 out i) k (by rw [hide1_len]; exact hk), hide1_seal, hide1_rd out i k hk]
    by_cases h1 : (k : Int) = i <;> by_cases h2 : (k : Int) ∈ a <;> simp [h1, h2]
theorem hide_at {l : List Leaf} (a : List Int) {k : Nat} (hk : k < l.length) (hk' : k < (hideP l a).length) : (hideP l a)[k] = if (k : Int) ∈ a then (0, 0, true, (l[k]).2.2.2) else l[k] := by
  have := hide_rd a l k hk
  rw [rd_at l k hk] at this
  rw [← this]; exact (rd_at _ k hk' _).symm
theorem hideP_len (l : List Leaf) (a : List Int) : (hideP l a).length = l.length := hide_len a l
theorem hide_leaves {l : List Leaf} (a : List Int) (h : areLeavesP l = true) : areLeavesP (hideP l a) = true := by
  unfold areLeavesP at h ⊢
  simp only [Bool.and_eq_true, decide_eq_true_eq, Bool.not_eq_true', List.any_eq_false] at h ⊢
  refine ⟨by rw [hideP_len]; exact h.1, fun x hx => ?_⟩
  obtain ⟨k, hk, rfl⟩ := List.mem_iff_getElem.1 hx
  have hk2 : k < l.length := by rw [hideP_len] at hk; exact hk
  rw [hide_at a hk2 hk]
  split
  · simp [leafBad]
  · exact h.2 _ (List.getElem_mem _)
theorem hide_red {l : List Leaf} (a : List Int) (h : areLeavesP l = true) : isRedP (hideP l a) l = true := by
  unfold isRedP
  rw [hide_leaves a h, h]
  simp only [Bool.true_and, hideP_len, decide_true, List.all_eq_true]
  intro q hq
  obtain ⟨k, hk, rfl⟩ := List.mem_iff_getElem.1 hq
  rw [List.length_zip, hideP_len] at hk
  rw [List.getElem_zip]
  have hk2 : k < l.length := by omega
  simp only [hide_at a hk2 (by rw [hideP_len]; exact hk2)]
  split
  · simp [redP]
  · simp [redP]
theorem seals_map (l : List Leaf) : sealsP l = l.map fun x => x.2.2.2 := by
  unfold sealsP; induction l with
  | nil => rfl
  | cons x l ih => rw [List.flatMap_cons, ih]; rfl
theorem hide_seals (l : List Leaf) (a : List Int) : sealsP (hideP l a) = sealsP l := by
  rw [seals_map, seals_map]
  refine List.ext_getElem (by simp [hideP_len]) fun k h1 h2 => ?_
  rw [List.length_map] at h1 h2
  rw [List.getElem_map, List.getElem_map, hide_at a h2 h1]
  split <;> rfl
theorem red_seals {x y : List Leaf} (h : isRedP x y = true) : sealsP x = sealsP y := by
  unfold isRedP at h
  simp only [Bool.and_eq_true, decide_eq_true_eq, List.all_eq_true] at h
  have := seals_zip h.1.2
  rw [show ((x.zip y).all fun q => decide (q.1.2.2.2 = q.2.2.2.2)) = true from List.all_eq_true.2 fun q hq => by
    have := h.2 q hq; simp only [redP, Bool.and_eq_true] at this; exact this.1] at this
  exact of_decide_eq_true this
theorem hiddenAt_mem : ∀ (l : List Leaf) (k : Nat) (i : Int), i ∈ hiddenAtF l k ↔ ∃ j, ∃ hj : j < l.length, i = ((k + j : Nat) : Int) ∧ (l[j]).2.2.1 = true
  | [], k, i => by simp [hiddenAtF]
  | x :: l, k, i => by
    rw [hiddenAtF, List.mem_append, hiddenAt_mem l (k + 1) i]
    constructor
    · rintro (h | ⟨j, hj, rfl, h⟩)
      · split at h
        · rename_i hx
          simp only [List.mem_singleton] at h
          exact ⟨0, by simp, by simpa using h, hx⟩
        · cases h
      · exact ⟨j + 1, by simpa using hj, by congr 1; omega, by simpa using h⟩
    · rintro ⟨j, hj, rfl, h⟩
      cases j with
      | zero => left; rw [if_pos (by simpa using h)]; simp
      | succ j => right; exact ⟨j, by simpa using hj, by congr 1; omega, by simpa using h⟩
theorem red_within {x y : List Leaf} (h : isRedP x y = true) : ((hiddenAtP y).all fun i => decide (i ∈ hiddenAtP x)) = true := by
  unfold isRedP at h
  simp only [Bool.and_eq_true, decide_eq_true_eq, List.all_eq_true] at h ⊢
  intro i hi
  obtain ⟨j, hj, rfl, hb⟩ := (hiddenAt_mem y 0 i).1 hi
  have hlen := h.1.2
  have := h.2 (x[j]'(by omega), y[j]) (by
    rw [List.mem_iff_getElem]
    exact ⟨j, by rw [List.length_zip]; omega, by rw [List.getElem_zip]⟩)
  simp only [redP, Bool.and_eq_true] at this
  exact (hiddenAt_mem x 0 _).2 ⟨j, by omega, rfl, by simpa [hb] using this.2⟩
theorem sealF_at (seed : Int) : ∀ (l : List Int) (i k : Nat) (hk : k < l.length) (hk' : k < (sealF seed l i).length), (sealF seed l i)[k] = sealLeaf seed (i + k) l[k]
  | n :: l, i, 0, _, _ => by simp [sealF]
  | n :: l, i, k + 1, hk, hk' => by
    simp only [sealF, List.getElem_cons_succ]
    rw [sealF_at seed l (i + 1) k (by simpa using hk)]; congr 1; omega
theorem salt_ne (seed : Int) {i j : Nat} (hi : i ≤ 100) (hj : j < i) : ¬ hashP [seed, (i : Int)] = hashP [seed, (j : Int)] := by
  unfold hashP
  simp only [List.foldl_cons, List.foldl_nil]
  generalize hash1 11 seed = h
  unfold hash1
  omega
theorem seal_leaves {l : List Int} {seed : Int} : areLeavesP (sealBodyP l seed) = true := by
  unfold sealBodyP
  split
  · rename_i hb
    unfold bodyOk at hb
    simp only [Bool.and_eq_true, decide_eq_true_eq, List.all_eq_true] at hb
    unfold areLeavesP
    simp only [Bool.and_eq_true, decide_eq_true_eq, Bool.not_eq_true', List.any_eq_false, sealF_len]
    refine ⟨hb.1.1, fun x hx => ?_⟩
    obtain ⟨k, hk, rfl⟩ := List.mem_iff_getElem.1 hx
    rw [sealF_len] at hk
    rw [sealF_at seed l 0 k hk]
    have := hb.1.2 l[k] (List.getElem_mem _)
    simp [leafBad, sealLeaf]; omega
  · rfl
theorem seal_at {l : List Int} {seed : Int} {k : Nat} (hk : k < (sealBodyP l seed).length) : ∃ hk' : k < l.length, (sealBodyP l seed)[k] = sealLeaf seed k l[k] ∧ l.length ≤ 100 := by
  unfold sealBodyP at hk
  split at hk
  · rename_i hb
    rw [sealF_len] at hk
    have hb' := hb
    unfold bodyOk at hb'
    simp only [Bool.and_eq_true, decide_eq_true_eq] at hb'
    refine ⟨hk, ?_, hb'.1.1⟩
    simp only [sealBodyP, hb, if_true]
    rw [sealF_at seed l 0 k hk, Nat.zero_add]
  · simp at hk
theorem seal_hidden (l : List Int) (seed : Int) : hiddenAtP (sealBodyP l seed) = [] := by
  rw [List.eq_nil_iff_forall_not_mem]
  intro i hi
  obtain ⟨j, hj, _, hb⟩ := (hiddenAt_mem _ 0 i).1 hi
  obtain ⟨_, e, _⟩ := seal_at hj
  rw [e] at hb; simp [sealLeaf] at hb
end D
end Go.Sh
set_option linter.unusedVariables false
set_option linter.unusedSimpArgs false
set_option synthInstance.maxSize 100000
set_option maxHeartbeats 4000000
namespace Go.Sh
open Go Data
namespace D
theorem leaf_both (x y : Leaf) : N.both (N.eq x.1 y.1) (N.both (N.eq x.2.1 y.2.1) (N.both (N.eqB x.2.2.1 y.2.2.1) (N.eq x.2.2.2 y.2.2.2))) = decide (x = y) := by
  obtain ⟨a, b, c, d⟩ := x; obtain ⟨a', b', c', d'⟩ := y
  simp only [eq_d, eqB_d, both_d, Prod.mk.injEq]
theorem redacted_seal {x : List Int} (h : x.length ≤ 1048576) {R : Type} {K : List Int × Int → Option R} {r : R} (hK : ∀ l seed, ok l → ok seed → K (l, seed) = some r) : N.bind (spec_DrawSealBody x) K = some r := by
  obtain ⟨⟨l, seed⟩, e, h1, h2⟩ := spec_DrawSealBody_is h
  rw [e, bind_some']; exact hK l seed h1 h2
theorem redacted_red {x : List Int} (h : x.length ≤ 1048576) {R : Type} {K : List Leaf × List Leaf → Option R} {r : R} (hK : ∀ l m, ok l → ok m → K (l, m) = some r) : N.bind (spec_DrawIsRedactionOf x) K = some r := by
  obtain ⟨⟨l, seed⟩, e, h1, h2⟩ := spec_DrawIsRedactionOf_is h
  rw [e, bind_some']; exact hK l seed h1 h2

theorem FnRedacted_true (x : List Int) (hx : bd x) : laws_FnRedacted x = some true := by
  unfold laws_FnRedacted
  simp only [laws_big, bind_some', gt_d, len_d, cond_dec]
  by_cases hb : 1048576 < (x.length : Int)
  · rw [if_pos hb]
  rw [if_neg hb]
  obtain ⟨⟨l, a⟩, e, hl, ha⟩ := spec_DrawHideLeaves_is (x := x) (by omega)
  simp only at hl ha
  rw [e, bind_some']
  simp only
  have hr := hide_ok (a := a) hl
  have hn := hideP_len l a
  have hll := hl.1; have hal := ha.1
  have hroot : rootP (sealsP (hideP l a)) = rootP (sealsP l) := by rw [hide_seals]
  have hne : ¬ ((l.length : Int) < (l.length : Int)) := by omega
  rw [impl_HideLeaves_is hl ha, bind_some', impl_AreLeaves_is (by omega), bind_some', cond_if]
  split
  rename_i hal2
  rw [impl_AreLeaves_is (by omega), bind_some', hide_leaves a hal2, not_b, Bool.not_true, cond_false, impl_IsRedactionOf_is hr hl, bind_some', hide_red a hal2, not_b, Bool.not_true, cond_false]
  all_goals
    rw [impl_SealRoot_is hr, impl_SealRoot_is hl, bind_some', bind_some', hroot, hn]
    simp only [ne_d, not_true_eq_false, cond_dec, if_false]
    refine loop_upto (r := true) l.length (fun k (_ : Unit) => ((k : Nat) : Int)) (fun _ => ()) (fun k hk => ?_) ?_
    · have k0 : (0 : Int) ≤ (k : Int) := by omega
      have k1 : (k : Int) < (l.length : Int) := by omega
      have hk' : k < (hideP l a).length := by omega
      have hat := hide_at a hk hk'
      simp only [ite_if]; simp only [lt_d, len_d, hn, cond_dec, k0, k1, if_true, rd_at l k hk, rd_at _ k hk', laws_contains_is (l := a) (by omega), bind_some', leaf_both, not_b, ne_d, next_id hk (by omega)]
      rw [hat]
      by_cases c : (k : Int) ∈ a
      · simp [c]
      · simp [c]
    · simp only [lt_d, len_d, cond_dec, hne, if_false]
      refine congrArg (Option.map Sum.inr) (?_ : _ = some true)
      refine redacted_red (by omega) fun y z hy hz => ?_
      have hyl := hy.1; have hzl := hz.1
      have hyh := hiddenAt_ok hy; have hzh := hiddenAt_ok hz
      have hyh1 := hyh.1; have hzh1 := hzh.1
      simp only
      rw [impl_IsRedactionOf_is hy hz, bind_some', cond_if]
      split
      rename_i hred
      rw [impl_SealRoot_is hy, impl_SealRoot_is hz, bind_some', bind_some', red_seals hred]
      simp only [ne_d, not_true_eq_false, cond_dec, if_false]
      rw [impl_HiddenAt_is hz, impl_HiddenAt_is hy, bind_some', bind_some', laws_within_is (by omega) (by omega), bind_some', red_within hred, not_b, Bool.not_true, cond_if, if_neg (by simp)]
      all_goals
        refine redacted_seal (by omega) fun b seed hb1 hs1 => ?_
        simp only
        rw [impl_SealBody_is hb1, bind_some']
        have hso := sealBody_ok hb1 seed
        have hsl := hso.1
        have hne2 : ¬ (((sealBodyP b seed).length : Int) < ((sealBodyP b seed).length : Int)) := by omega
        refine loop_upto (r := true) (sealBodyP b seed).length (fun k (_ : Unit) => ((k : Nat) : Int)) (fun _ => ()) (fun k hk => ?_) ?_
        · obtain ⟨hkb, hat, h100⟩ := seal_at hk
          have k0 : (0 : Int) ≤ (k : Int) := by omega
          have k1 : (k : Int) < ((sealBodyP b seed).length : Int) := by omega
          have k2 : (k : Int) < (b.length : Int) := by omega
          have kk : ¬ ((k : Int) < (k : Int)) := by omega
          simp only [ite_if]; simp only [lt_d, len_d, cond_dec, k0, k1, k2, if_true, rd_at _ k hk, rd_at b k hkb, hat]
          simp only [sealLeaf, ne_d, not_true_eq_false, cond_dec, if_false, cond_false, next_id hk (by omega)]
          refine loop_upto (r := Sum.inl (((k + 1 : Nat) : Int))) k (fun j (_ : Unit) => ((j : Nat) : Int)) (fun _ => ()) (fun j hj => ?_) ?_
          · have hj1 : j < (sealBodyP b seed).length := by omega
            obtain ⟨hjb, hatj, _⟩ := seal_at hj1
            have j0 : (0 : Int) ≤ (j : Int) := by omega
            have j1 : (j : Int) < ((sealBodyP b seed).length : Int) := by omega
            have j2 : (j : Int) < (k : Int) := by omega
            simp only [cond_dec, j0, j1, j2, if_true, rd_at _ j hj1, hatj, sealLeaf, eq_d, next_id hj1 (by omega)]
            rw [if_neg (salt_ne seed (by omega) hj)]
          · simp only [cond_dec, kk, if_false]
        · simp only [lt_d, len_d, cond_dec, hne2, if_false]
          rw [impl_AreLeaves_is (by omega), bind_some', seal_leaves, cond_true, impl_HiddenAt_is hso, bind_some', seal_hidden]
          rfl
end D
end Go.Sh
