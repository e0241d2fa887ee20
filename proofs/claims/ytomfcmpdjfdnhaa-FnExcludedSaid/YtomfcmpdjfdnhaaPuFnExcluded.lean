/- The native forms of the functions that FnExcluded reaches, and their pure laws: FnExcluded is true for every input of bounded parts. No condition beyond the bounds that every input keeps. -/
import Derived.Test.YtomfcmpdjfdnhaaSh8
set_option linter.unusedVariables false
set_option maxRecDepth 100000
set_option maxHeartbeats 4000000
namespace Go.Sh
open Go
namespace N
def nostr : ByteArray := ByteArray.empty
def lit (l : List UInt8) : ByteArray := ⟨l.toArray⟩
def let_ {α R : Type} (x : α) (f : α → Option R) : Option R := f x
end N
namespace D
abbrev Exclusion : Type := Int × Int × Int × Int × Int
abbrev Address : Type := Int × Int × Int
abbrev Resource : Type := Int × (List Int) × Address
abbrev Capture : Type := Address × Int × Resource
abbrev l1Cur : Type := (List Int) × Int × Int
noncomputable def impl_InRange (x0 : Int) (x1 : Int) (x2 : Int) : Option (Bool) :=
  N.cond (N.le x1 x0)
    (some (N.le x0 x2))
    (some false)

noncomputable def impl_IsExclusion (x0 : Exclusion) : Option (Bool) :=
  N.bind (impl_InRange x0.1 1 9) fun r1 =>
    N.cond r1
      (
        N.bind (impl_InRange x0.2.1 (-1) 99) fun r2 =>
          N.cond r2
            (
              N.bind (impl_InRange x0.2.2.1 0 x0.2.2.2.1) fun r3 =>
                N.cond r3
                  (
                    N.cond (N.le x0.2.2.2.1 2000)
                      (
                        N.bind (impl_InRange x0.2.2.2.2 0 2000) fun r4 =>
                          some r4)
                      (some false))
                  (some false))
            (some false))
      (some false)

noncomputable def slices_Clone_int (x0 : List Int) : Option (List Int) :=
  N.nilc (N.isE x0)
    (some [])
    (
      N.ite (N.fits [] x0 8)
        (some (N.app [] x0))
        none)

noncomputable def impl_Exclusion_hides (x0 : Exclusion) (x1 : Capture) : Option (Bool) :=
  N.bind (impl_IsExclusion x0) fun r1 =>
    N.cond r1
      (
        N.cond (N.eq x1.1.1 x0.1)
          (
            N.cond (N.eq x0.2.1 (-1))
              (
                N.bind (impl_InRange x1.2.1 x0.2.2.1 x0.2.2.2.1) fun r2 =>
                  some r2)
              (
                N.cond (N.eq x1.1.2.1 x0.2.1)
                  (
                    N.bind (impl_InRange x1.2.1 x0.2.2.1 x0.2.2.2.1) fun r3 =>
                      some r3)
                  (some false)))
          (some false))
      (some false)

noncomputable def impl_IsHiddenBy (x0 : Exclusion) (x1 : Capture) (x2 : Int) : Option (Bool) :=
  N.cond (N.ge x2 x0.2.2.2.2)
    (
      N.bind (impl_Exclusion_hides x0 x1) fun r1 =>
        some r1)
    (some false)

noncomputable def slices_Equal_int (x0 : List Int) (x1 : List Int) : Option (Bool) :=
  N.cond (N.ne (N.len x0) (N.len x1))
    (some false)
    (
      loopF (fun (s1 : Int) =>
          N.cond (N.lt s1 (N.len x0))
            (
              N.ite (0 ≤ s1)
                (
                  N.ite (s1 < N.len x0)
                    (
                      N.ite (0 ≤ s1)
                        (
                          N.ite (s1 < N.len x1)
                            (
                              N.cond (N.ne (N.rd x0 s1 0) (N.rd x1 s1 0))
                                (some (.inr false))
                                (some (.inl (N.add .i64 s1 1))))
                            none)
                        none)
                    none)
                none)
            (some (.inr true)))
        0)

noncomputable def impl_copyResource (x0 : Resource) : Option (Int × (List Int) × Int × Int × Int) :=
  N.bind (slices_Clone_int x0.2.1) fun r1 =>
    some (x0.1, r1, x0.2.2.1, x0.2.2.2.1, x0.2.2.2.2)

noncomputable def impl_copyCaptures (x0 : List Capture) : Option (List Capture) :=
  loopF (fun (s1 : List Capture × Int) =>
      N.cond (N.lt s1.2 (N.len x0))
        (
          N.ite (0 ≤ s1.2)
            (
              N.ite (s1.2 < N.len x0)
                (
                  N.bind (impl_copyResource ((N.rd x0 s1.2 ((0, 0, 0), 0, (0, [], (0, 0, 0)))).2.2)) fun r1 =>
                    N.ite (N.fits s1.1 [((N.rd x0 s1.2 ((0, 0, 0), 0, (0, [], (0, 0, 0)))).1, (N.rd x0 s1.2 ((0, 0, 0), 0, (0, [], (0, 0, 0)))).2.1, (r1.1, r1.2.1, (r1.2.2.1, r1.2.2.2.1, r1.2.2.2.2)))] 88)
                      (some (.inl (N.app s1.1 [((N.rd x0 s1.2 ((0, 0, 0), 0, (0, [], (0, 0, 0)))).1, (N.rd x0 s1.2 ((0, 0, 0), 0, (0, [], (0, 0, 0)))).2.1, (r1.1, r1.2.1, (r1.2.2.1, r1.2.2.2.1, r1.2.2.2.2)))], N.add .i64 s1.2 1)))
                      none)
                none)
            none)
        (some (.inr s1.1)))
    ([], 0)

noncomputable def laws_big (x0 : List Int) : Option (Bool) :=
  some (N.gt (N.len x0) 1048576)

noncomputable def spec_l1New (x0 : List Int) : Option (l1Cur) :=
  loopF (fun (s1 : Int × Int) =>
      N.cond (N.lt s1.2 (N.len x0))
        (
          N.cond (N.lt s1.2 4000)
            (
              N.ite (0 ≤ s1.2)
                (
                  N.ite (s1.2 < N.len x0)
                    (some (.inl (N.and .i64 (N.add .i64 (N.add .i64 (N.mul .i64 s1.1 137) (N.conv .i64 (N.rd x0 s1.2 0))) 11) 1073741823, N.add .i64 s1.2 1)))
                    none)
                none)
            (some (.inr (x0, 0, s1.1))))
        (some (.inr (x0, 0, s1.1))))
    (N.add .i64 193017 (N.len x0), 0)

noncomputable def spec_l1Byte (x0 : l1Cur) : Option (Int × l1Cur) :=
  N.cond (N.lt x0.2.1 (N.len x0.1))
    (
      N.ite (0 ≤ x0.2.1)
        (
          N.ite (x0.2.1 < N.len x0.1)
            (some (N.and .i64 (N.add .i64 (N.and .i64 (N.xor .i64 (N.shr .i64 (N.add .i64 (N.mul .i64 x0.2.2 6364136223846793005) 1442695040888963407) 33) (N.shr .i64 (N.add .i64 (N.mul .i64 x0.2.2 6364136223846793005) 1442695040888963407) 47)) 255) (N.conv .i64 (N.rd x0.1 x0.2.1 0))) 255, (x0.1, N.add .i64 x0.2.1 1, N.add .i64 (N.mul .i64 x0.2.2 6364136223846793005) 1442695040888963407)))
            none)
        none)
    (some (N.and .i64 (N.xor .i64 (N.shr .i64 (N.add .i64 (N.mul .i64 x0.2.2 6364136223846793005) 1442695040888963407) 33) (N.shr .i64 (N.add .i64 (N.mul .i64 x0.2.2 6364136223846793005) 1442695040888963407) 47)) 255, (x0.1, x0.2.1, N.add .i64 (N.mul .i64 x0.2.2 6364136223846793005) 1442695040888963407)))

noncomputable def spec_l1Below (x0 : l1Cur) (x1 : Int) : Option (Int × l1Cur) :=
  N.cond (N.le x1 0)
    (some (0, x0))
    (
      N.cond (N.le x1 256)
        (
          N.bind (spec_l1Byte x0) fun r1 =>
            N.ite (x1 = 0)
              none
              (some (N.rem r1.1 x1, r1.2)))
        (
          N.bind (spec_l1Byte x0) fun r2 =>
            N.bind (spec_l1Byte r2.2) fun r3 =>
              N.bind (spec_l1Byte r3.2) fun r4 =>
                N.ite (x1 = 0)
                  none
                  (some (N.rem (N.add .i64 (N.add .i64 (N.mul .i64 r2.1 65536) (N.mul .i64 r3.1 256)) r4.1) x1, r4.2))))

noncomputable def spec_l1Int (x0 : l1Cur) (x1 : List Int) : Option (Int × l1Cur) :=
  N.bind (spec_l1Below x0 (N.len x1)) fun r1 =>
    N.ite (0 ≤ r1.1)
      (
        N.ite (r1.1 < N.len x1)
          (some (N.rd x1 r1.1 0, r1.2))
          none)
      none

noncomputable def spec_l4Raw (x0 : l1Cur) : Option (Int × l1Cur) :=
  N.bind (spec_l1Int x0 [(-1), 0, 9, 10, 99, 100, 9223372036854775807, (-9223372036854775808)]) fun r1 =>
    some r1

noncomputable def spec_l4Draw (x0 : l1Cur) : Option (Address × l1Cur) :=
  N.bind (spec_l1Below x0 3) fun r1 =>
    N.bind (spec_l1Below r1.2 3) fun r2 =>
      N.bind (spec_l1Below r2.2 3) fun r3 =>
        some ((N.add .i64 1 r1.1, r2.1, r3.1), r3.2)

noncomputable def spec_l5Body (x0 : l1Cur) : Option ((List Int) × l1Cur) :=
  N.bind (spec_l1Below x0 5) fun r1 =>
    loopF (fun (s1 : List Int × Int × (List Int × Int × Int)) =>
        N.cond (N.gt s1.2.1 0)
          (
            N.bind (spec_l1Below s1.2.2 9) fun r2 =>
              N.ite (N.fits s1.1 [r2.1] 8)
                (some (.inl (N.app s1.1 [r2.1], N.sub .i64 s1.2.1 1, r2.2)))
                none)
          (some (.inr (s1.1, s1.2.2))))
      ([], r1.1, r1.2)

noncomputable def spec_l5Draw (x0 : l1Cur) : Option (Int × (List Int) × Int × Int × Int × l1Cur) :=
  N.bind (spec_l1Below x0 6) fun r1 =>
    N.cond (N.eq r1.1 0)
      (
        N.bind (spec_l4Draw r1.2) fun r2 =>
          some (3, [], r2.1.1, r2.1.2.1, r2.1.2.2, r2.2))
      (
        N.cond (N.eq r1.1 1)
          (some (4, [], 0, 0, 0, r1.2))
          (
            N.bind (spec_l1Below r1.2 2) fun r3 =>
              N.bind (spec_l5Body r3.2) fun r4 =>
                some (N.add .i64 1 r3.1, r4.1, 0, 0, 0, r4.2)))

noncomputable def spec_l4Any (x0 : l1Cur) : Option (Address × l1Cur) :=
  N.bind (spec_l4Draw x0) fun r1 =>
    N.bind (spec_l1Below r1.2 9) fun r2 =>
      N.cond (N.eq r2.1 0)
        (
          N.bind (spec_l4Raw r2.2) fun r3 =>
            some ((r3.1, r1.1.2.1, r1.1.2.2), r3.2))
        (
          N.cond (N.eq r2.1 1)
            (
              N.bind (spec_l4Raw r2.2) fun r4 =>
                some ((r1.1.1, r4.1, r1.1.2.2), r4.2))
            (
              N.cond (N.eq r2.1 2)
                (
                  N.bind (spec_l4Raw r2.2) fun r5 =>
                    some ((r1.1.1, r1.1.2.1, r5.1), r5.2))
                (some (r1.1, r2.2))))

noncomputable def spec_l5Any (x0 : l1Cur) : Option (Int × (List Int) × Int × Int × Int × l1Cur) :=
  N.bind (spec_l5Draw x0) fun r1 =>
    N.bind (spec_l1Below r1.2.2.2.2.2 9) fun r2 =>
      N.cond (N.eq r2.1 0)
        (
          N.bind (spec_l1Int r2.2 [0, 5, 3, 4]) fun r3 =>
            some (r3.1, r1.2.1, r1.2.2.1, r1.2.2.2.1, r1.2.2.2.2.1, r3.2))
        (
          N.cond (N.eq r2.1 1)
            (
              N.bind (spec_l1Int r2.2 [(-1), 255, 256]) fun r4 =>
                N.ite (N.fits r1.2.1 [r4.1] 8)
                  (some (r1.1, N.app r1.2.1 [r4.1], r1.2.2.1, r1.2.2.2.1, r1.2.2.2.2.1, r4.2))
                  none)
            (
              N.cond (N.eq r2.1 2)
                (some (r1.1, [1, 2, 3, 4, 5, 6, 7], r1.2.2.1, r1.2.2.2.1, r1.2.2.2.2.1, r2.2))
                (
                  N.cond (N.eq r2.1 3)
                    (
                      N.bind (spec_l4Any r2.2) fun r5 =>
                        some (r1.1, r1.2.1, r5.1.1, r5.1.2.1, r5.1.2.2, r5.2))
                    (some (r1.1, r1.2.1, r1.2.2.1, r1.2.2.2.1, r1.2.2.2.2.1, r2.2)))))

noncomputable def impl_FirstHidden (x0 : Capture) (x1 : List Exclusion) : Option (Int) :=
  loopF (fun (s1 : Int × Int) =>
      N.cond (N.lt s1.2 (N.len x1))
        (
          N.ite (0 ≤ s1.2)
            (
              N.ite (s1.2 < N.len x1)
                (
                  N.bind (impl_Exclusion_hides (N.rd x1 s1.2 (0, 0, 0, 0, 0)) x0) fun r1 =>
                    N.cond r1
                      (
                        N.cond (N.lt s1.1 0)
                          (some (.inl ((N.rd x1 s1.2 (0, 0, 0, 0, 0)).2.2.2.2, N.add .i64 s1.2 1)))
                          (
                            N.cond (N.lt ((N.rd x1 s1.2 (0, 0, 0, 0, 0)).2.2.2.2) s1.1)
                              (some (.inl ((N.rd x1 s1.2 (0, 0, 0, 0, 0)).2.2.2.2, N.add .i64 s1.2 1)))
                              (some (.inl (s1.1, N.add .i64 s1.2 1)))))
                      (some (.inl (s1.1, N.add .i64 s1.2 1))))
                none)
            none)
        (some (.inr s1.1)))
    ((-1), 0)

noncomputable def spec_l15Draw (x0 : l1Cur) : Option ((List Capture) × l1Cur) :=
  N.bind (spec_l1Below x0 8) fun r1 =>
    loopF (fun (s1 : List Capture × Int × (List Int × Int × Int)) =>
        N.cond (N.gt s1.2.1 0)
          (
            N.bind (spec_l4Draw s1.2.2) fun r2 =>
              N.bind (spec_l1Below r2.2 20) fun r3 =>
                N.bind (spec_l5Draw r3.2) fun r4 =>
                  N.ite (N.fits s1.1 [(r2.1, r3.1, (r4.1, r4.2.1, (r4.2.2.1, r4.2.2.2.1, r4.2.2.2.2.1)))] 88)
                    (some (.inl (N.app s1.1 [(r2.1, r3.1, (r4.1, r4.2.1, (r4.2.2.1, r4.2.2.2.1, r4.2.2.2.2.1)))], N.sub .i64 s1.2.1 1, r4.2.2.2.2.2)))
                    none)
          (some (.inr (s1.1, s1.2.2))))
      ([], r1.1, r1.2)

noncomputable def spec_l15Any (x0 : l1Cur) : Option ((List Capture) × l1Cur) :=
  N.bind (spec_l15Draw x0) fun r1 =>
    N.cond (N.eq (N.len r1.1) 0)
      (some r1)
      (
        N.bind (spec_l1Below r1.2 (N.len r1.1)) fun r2 =>
          N.bind (spec_l1Below r2.2 9) fun r3 =>
            N.cond (N.eq r3.1 0)
              (
                N.bind (spec_l4Any r3.2) fun r4 =>
                  N.ite (0 ≤ r2.1)
                    (
                      N.ite (r2.1 < N.len r1.1)
                        (
                          N.let_ (N.set r1.1 r2.1 (r4.1, (N.rd r1.1 r2.1 ((0, 0, 0), 0, (0, [], (0, 0, 0)))).2.1, (N.rd r1.1 r2.1 ((0, 0, 0), 0, (0, [], (0, 0, 0)))).2.2)) fun v1 =>
                            some (v1, r4.2))
                        none)
                    none)
              (
                N.cond (N.eq r3.1 1)
                  (
                    N.bind (spec_l1Int r3.2 [(-1), 2000, 2001, 9223372036854775807]) fun r5 =>
                      N.ite (0 ≤ r2.1)
                        (
                          N.ite (r2.1 < N.len r1.1)
                            (
                              N.let_ (N.set r1.1 r2.1 ((N.rd r1.1 r2.1 ((0, 0, 0), 0, (0, [], (0, 0, 0)))).1, r5.1, (N.rd r1.1 r2.1 ((0, 0, 0), 0, (0, [], (0, 0, 0)))).2.2)) fun v2 =>
                                some (v2, r5.2))
                            none)
                        none)
                  (
                    N.cond (N.eq r3.1 2)
                      (
                        N.bind (spec_l5Any r3.2) fun r6 =>
                          N.ite (0 ≤ r2.1)
                            (
                              N.ite (r2.1 < N.len r1.1)
                                (
                                  N.let_ (N.set r1.1 r2.1 ((N.rd r1.1 r2.1 ((0, 0, 0), 0, (0, [], (0, 0, 0)))).1, (N.rd r1.1 r2.1 ((0, 0, 0), 0, (0, [], (0, 0, 0)))).2.1, (r6.1, r6.2.1, (r6.2.2.1, r6.2.2.2.1, r6.2.2.2.2.1)))) fun v3 =>
                                    some (v3, r6.2.2.2.2.2))
                                none)
                            none)
                      (some (r1.1, r3.2)))))

noncomputable def spec_l25Draw (x0 : l1Cur) : Option (Exclusion × l1Cur) :=
  N.bind (spec_l1Below x0 15) fun r1 =>
    N.bind (spec_l1Below r1.2 3) fun r2 =>
      N.bind (spec_l1Below r2.2 4) fun r3 =>
        N.bind (spec_l1Below r3.2 12) fun r4 =>
          N.bind (spec_l1Below r4.2 20) fun r5 =>
            some ((N.add .i64 1 r2.1, N.sub .i64 r3.1 1, r1.1, N.add .i64 r1.1 r4.1, r5.1), r5.2)

noncomputable def spec_l25Any (x0 : l1Cur) : Option (Exclusion × l1Cur) :=
  N.bind (spec_l25Draw x0) fun r1 =>
    N.bind (spec_l1Below r1.2 9) fun r2 =>
      N.cond (N.eq r2.1 0)
        (
          N.bind (spec_l4Raw r2.2) fun r3 =>
            some ((r3.1, r1.1.2.1, r1.1.2.2.1, r1.1.2.2.2.1, r1.1.2.2.2.2), r3.2))
        (
          N.cond (N.eq r2.1 1)
            (
              N.bind (spec_l1Int r2.2 [(-2), (-1), 99, 100]) fun r4 =>
                some ((r1.1.1, r4.1, r1.1.2.2.1, r1.1.2.2.2.1, r1.1.2.2.2.2), r4.2))
            (
              N.cond (N.eq r2.1 2)
                (
                  N.bind (spec_l1Int r2.2 [(-1), 30]) fun r5 =>
                    some ((r1.1.1, r1.1.2.1, r5.1, r1.1.2.2.2.1, r1.1.2.2.2.2), r5.2))
                (
                  N.cond (N.eq r2.1 3)
                    (
                      N.bind (spec_l1Int r2.2 [2000, 2001]) fun r6 =>
                        some ((r1.1.1, r1.1.2.1, r1.1.2.2.1, r6.1, r1.1.2.2.2.2), r6.2))
                    (
                      N.cond (N.eq r2.1 4)
                        (
                          N.bind (spec_l4Raw r2.2) fun r7 =>
                            some ((r1.1.1, r1.1.2.1, r1.1.2.2.1, r1.1.2.2.2.1, r7.1), r7.2))
                        (some (r1.1, r2.2))))))

noncomputable def spec_l25List (x0 : l1Cur) : Option ((List Exclusion) × l1Cur) :=
  N.bind (spec_l1Below x0 4) fun r1 =>
    loopF (fun (s1 : List Exclusion × Int × (List Int × Int × Int)) =>
        N.cond (N.gt s1.2.1 0)
          (
            N.bind (spec_l25Any s1.2.2) fun r2 =>
              N.ite (N.fits s1.1 [r2.1] 40)
                (some (.inl (N.app s1.1 [r2.1], N.sub .i64 s1.2.1 1, r2.2)))
                none)
          (some (.inr (s1.1, s1.2.2))))
      ([], r1.1, r1.2)

noncomputable def spec_DrawVisibleAt (x0 : List Int) : Option ((List Capture) × (List Exclusion) × Int) :=
  N.bind (spec_l1New x0) fun r1 =>
    N.bind (spec_l15Any r1) fun r2 =>
      N.bind (spec_l25List r2.2) fun r3 =>
        N.bind (spec_l1Below r3.2 24) fun r4 =>
          some (r2.1, r3.1, r4.1)

noncomputable def impl_VisibleAt_1 (x0 : Exclusion) (x1 : Capture) (x2 : Int) : Option (Bool) :=
  N.bind (impl_IsHiddenBy x0 x1 x2) fun r1 =>
    some r1

noncomputable def slices_IndexFunc_Exclusion_impl_VisibleAt_1 (x0 : List Exclusion) (x1 : Capture × Int) : Option (Int) :=
  loopF (fun (s1 : Int) =>
      N.cond (N.lt s1 (N.len x0))
        (
          N.ite (0 ≤ s1)
            (
              N.ite (s1 < N.len x0)
                (
                  N.bind (impl_VisibleAt_1 (N.rd x0 s1 (0, 0, 0, 0, 0)) x1.1 x1.2) fun r1 =>
                    N.cond r1
                      (some (.inr s1))
                      (some (.inl (N.add .i64 s1 1))))
                none)
            none)
        (some (.inr (-1))))
    0

noncomputable def slices_ContainsFunc_Exclusion_impl_VisibleAt_1 (x0 : List Exclusion) (x1 : Capture × Int) : Option (Bool) :=
  N.bind (slices_IndexFunc_Exclusion_impl_VisibleAt_1 x0 (x1.1, x1.2)) fun r1 =>
    some (N.ge r1 0)

noncomputable def impl_VisibleAt (x0 : List Capture) (x1 : List Exclusion) (x2 : Int) : Option (List Capture) :=
  loopF (fun (s1 : List Capture × Int) =>
      N.cond (N.lt s1.2 (N.len x0))
        (
          N.ite (0 ≤ s1.2)
            (
              N.ite (s1.2 < N.len x0)
                (
                  N.bind (slices_ContainsFunc_Exclusion_impl_VisibleAt_1 x1 (N.rd x0 s1.2 ((0, 0, 0), 0, (0, [], (0, 0, 0))), x2)) fun r1 =>
                    N.cond (N.not r1)
                      (
                        N.ite (N.fits s1.1 [N.rd x0 s1.2 ((0, 0, 0), 0, (0, [], (0, 0, 0)))] 88)
                          (some (.inl (N.app s1.1 [N.rd x0 s1.2 ((0, 0, 0), 0, (0, [], (0, 0, 0)))], N.add .i64 s1.2 1)))
                          none)
                      (some (.inl (s1.1, N.add .i64 s1.2 1))))
                none)
            none)
        (
          Option.map Sum.inr
            (
              N.bind (impl_copyCaptures s1.1) fun r2 =>
                some r2)))
    ([], 0)

noncomputable def impl_EqualResources (x0 : Resource) (x1 : Resource) : Option (Bool) :=
  N.cond (N.eq x0.1 x1.1)
    (
      N.cond (N.both (N.eq x0.2.2.1 x1.2.2.1) (N.both (N.eq x0.2.2.2.1 x1.2.2.2.1) (N.eq x0.2.2.2.2 x1.2.2.2.2)))
        (
          N.bind (slices_Equal_int x0.2.1 x1.2.1) fun r1 =>
            some r1)
        (some false))
    (some false)

noncomputable def impl_sameCapture (x0 : Capture) (x1 : Capture) : Option (Bool) :=
  N.cond (N.both (N.eq x0.1.1 x1.1.1) (N.both (N.eq x0.1.2.1 x1.1.2.1) (N.eq x0.1.2.2 x1.1.2.2)))
    (
      N.cond (N.eq x0.2.1 x1.2.1)
        (
          N.bind (impl_EqualResources x0.2.2 x1.2.2) fun r1 =>
            some r1)
        (some false))
    (some false)

noncomputable def slices_EqualFunc_Capture_impl_sameCapture (x0 : List Capture) (x1 : List Capture) : Option (Bool) :=
  N.cond (N.ne (N.len x0) (N.len x1))
    (some false)
    (
      loopF (fun (s1 : Int) =>
          N.cond (N.lt s1 (N.len x0))
            (
              N.ite (0 ≤ s1)
                (
                  N.ite (s1 < N.len x0)
                    (
                      N.ite (0 ≤ s1)
                        (
                          N.ite (s1 < N.len x1)
                            (
                              N.bind (impl_sameCapture (N.rd x0 s1 ((0, 0, 0), 0, (0, [], (0, 0, 0)))) (N.rd x1 s1 ((0, 0, 0), 0, (0, [], (0, 0, 0))))) fun r1 =>
                                N.cond (N.not r1)
                                  (some (.inr false))
                                  (some (.inl (N.add .i64 s1 1))))
                            none)
                        none)
                    none)
                none)
            (some (.inr true)))
        0)

noncomputable def impl_EqualCaptures (x0 : List Capture) (x1 : List Capture) : Option (Bool) :=
  N.bind (slices_EqualFunc_Capture_impl_sameCapture x0 x1) fun r1 =>
    some r1

noncomputable def impl_HiddenCount (x0 : List Capture) (x1 : List Exclusion) (x2 : Int) : Option (Int) :=
  N.bind (impl_VisibleAt x0 x1 x2) fun r1 =>
    some (N.sub .i64 (N.len x0) (N.len r1))

noncomputable def laws_FnExcluded (x0 : List Int) : Option (Bool) :=
  N.bind (laws_big x0) fun r1 =>
    N.cond r1
      (some true)
      (
        N.bind (spec_DrawVisibleAt x0) fun r2 =>
          N.bind (impl_VisibleAt r2.1 r2.2.1 r2.2.2) fun r3 =>
            loopF (fun (s1 : Int × Int) =>
                N.cond (N.lt s1.2 (N.len r2.1))
                  (
                    loopF (fun (s2 : Bool × Int) =>
                        N.cond (N.lt s2.2 (N.len r2.2.1))
                          (
                            N.cond s2.1
                              (some (.inl (true, N.add .i64 s2.2 1)))
                              (
                                N.ite (0 ≤ s2.2)
                                  (
                                    N.ite (s2.2 < N.len r2.2.1)
                                      (
                                        N.ite (0 ≤ s1.2)
                                          (
                                            N.ite (s1.2 < N.len r2.1)
                                              (
                                                N.bind (impl_IsHiddenBy (N.rd r2.2.1 s2.2 (0, 0, 0, 0, 0)) (N.rd r2.1 s1.2 ((0, 0, 0), 0, (0, [], (0, 0, 0)))) r2.2.2) fun r4 =>
                                                  some (.inl (r4, N.add .i64 s2.2 1)))
                                              none)
                                          none)
                                      none)
                                  none))
                          (
                            Option.map Sum.inr
                              (
                                N.ite (0 ≤ s1.2)
                                  (
                                    N.ite (s1.2 < N.len r2.1)
                                      (
                                        N.bind (impl_FirstHidden (N.rd r2.1 s1.2 ((0, 0, 0), 0, (0, [], (0, 0, 0)))) r2.2.1) fun r5 =>
                                          N.cond (N.ge r5 0)
                                            (
                                              N.cond (N.neB s2.1 (N.le r5 r2.2.2))
                                                (some (.inr false))
                                                (
                                                  N.cond (N.not s2.1)
                                                    (
                                                      N.cond (N.ge s1.1 (N.len r3))
                                                        (some (.inr false))
                                                        (
                                                          N.ite (0 ≤ s1.1)
                                                            (
                                                              N.ite (s1.1 ≤ N.add .i64 s1.1 1)
                                                                (
                                                                  N.ite (N.add .i64 s1.1 1 ≤ N.len r3)
                                                                    (
                                                                      N.ite (0 ≤ s1.2)
                                                                        (
                                                                          N.ite (s1.2 ≤ N.add .i64 s1.2 1)
                                                                            (
                                                                              N.ite (N.add .i64 s1.2 1 ≤ N.len r2.1)
                                                                                (
                                                                                  N.bind (impl_EqualCaptures (N.cut r3 s1.1 (N.add .i64 s1.1 1)) (N.cut r2.1 s1.2 (N.add .i64 s1.2 1))) fun r6 =>
                                                                                    N.cond (N.not r6)
                                                                                      (some (.inr false))
                                                                                      (some (.inl (N.add .i64 s1.1 1, N.add .i64 s1.2 1))))
                                                                                none)
                                                                            none)
                                                                        none)
                                                                    none)
                                                                none)
                                                            none))
                                                    (some (.inl (s1.1, N.add .i64 s1.2 1)))))
                                            (
                                              N.cond (N.neB s2.1 false)
                                                (some (.inr false))
                                                (
                                                  N.cond (N.not s2.1)
                                                    (
                                                      N.cond (N.ge s1.1 (N.len r3))
                                                        (some (.inr false))
                                                        (
                                                          N.ite (0 ≤ s1.1)
                                                            (
                                                              N.ite (s1.1 ≤ N.add .i64 s1.1 1)
                                                                (
                                                                  N.ite (N.add .i64 s1.1 1 ≤ N.len r3)
                                                                    (
                                                                      N.ite (0 ≤ s1.2)
                                                                        (
                                                                          N.ite (s1.2 ≤ N.add .i64 s1.2 1)
                                                                            (
                                                                              N.ite (N.add .i64 s1.2 1 ≤ N.len r2.1)
                                                                                (
                                                                                  N.bind (impl_EqualCaptures (N.cut r3 s1.1 (N.add .i64 s1.1 1)) (N.cut r2.1 s1.2 (N.add .i64 s1.2 1))) fun r7 =>
                                                                                    N.cond (N.not r7)
                                                                                      (some (.inr false))
                                                                                      (some (.inl (N.add .i64 s1.1 1, N.add .i64 s1.2 1))))
                                                                                none)
                                                                            none)
                                                                        none)
                                                                    none)
                                                                none)
                                                            none))
                                                    (some (.inl (s1.1, N.add .i64 s1.2 1))))))
                                      none)
                                  none)))
                      (false, 0))
                  (
                    Option.map Sum.inr
                      (
                        N.cond (N.eq s1.1 (N.len r3))
                          (
                            N.bind (impl_HiddenCount r2.1 r2.2.1 r2.2.2) fun r8 =>
                              N.cond (N.eq r8 (N.sub .i64 (N.len r2.1) s1.1))
                                (
                                  N.bind (impl_HiddenCount r3 r2.2.1 r2.2.2) fun r9 =>
                                    N.cond (N.eq r9 0)
                                      (
                                        N.bind (impl_HiddenCount r2.1 r2.2.1 r2.2.2) fun r10 =>
                                          N.bind (impl_HiddenCount r2.1 r2.2.1 (N.add .i64 r2.2.2 1)) fun r11 =>
                                            some (N.le r10 r11))
                                      (some false))
                                (some false))
                          (some false))))
              (0, 0))

end D
end Go.Sh
set_option linter.unusedVariables false
set_option linter.unusedSimpArgs false
namespace Go.Sh
open Go
/-! ## Loops -/
theorem loopN_det {S R : Type} {step : S → Option (S ⊕ R)} : ∀ {n m : Nat} {s : S} {a b : R}, loopN step n s = some a → loopN step m s = some b → a = b
  | 0, _, _, _, _, h, _ => by simp [loopN] at h
  | _ + 1, 0, _, _, _, _, h => by simp [loopN] at h
  | n + 1, m + 1, s, a, b, h1, h2 => by
    simp only [loopN] at h1 h2
    split at h1
    · cases h1
    · rename_i s' hs; rw [hs] at h2; exact loopN_det h1 h2
    · rename_i r hr; rw [hr] at h2; simp at h1 h2; rw [← h1, ← h2]

theorem loopF_of {S R : Type} {step : S → Option (S ⊕ R)} {s : S} {n : Nat} {r : R} (h : loopN step n s = some r) : loopF step s = some r := by
  have hx : ∃ n r, loopN step n s = some r := ⟨n, r, h⟩
  unfold loopF
  rw [dif_pos hx]
  obtain ⟨m, hm⟩ := Classical.choose_spec hx |> fun h => (⟨_, Classical.choose_spec h⟩ : ∃ v, loopN step (Classical.choose hx) s = some v)
  have := Classical.choose_spec (Classical.choose_spec hx)
  rw [loopN_det this h]

theorem loopF_inr {S R : Type} {step : S → Option (S ⊕ R)} {s : S} {r : R} (h : step s = some (.inr r)) : loopF step s = some r :=
  loopF_of (n := 1) (by simp [loopN, h])

theorem loopF_inl {S R : Type} {step : S → Option (S ⊕ R)} {s s' : S} (h : step s = some (.inl s')) : loopF step s = loopF step s' := by
  by_cases hx : ∃ n r, loopN step n s' = some r
  · obtain ⟨n, r, hn⟩ := hx
    rw [loopF_of hn, loopF_of (n := n + 1) (r := r) (by simp [loopN, h, hn])]
  · have hy : ¬ ∃ n r, loopN step n s = some r := by
      rintro ⟨n, r, hn⟩
      cases n with
      | zero => simp [loopN] at hn
      | succ n => simp only [loopN, h] at hn; exact hx ⟨n, r, hn⟩
    unfold loopF
    rw [dif_neg hx, dif_neg hy]

/-- a loop over a list: what each round does -/
def each {α σ R : Type} (body : α → σ → Option (σ ⊕ R)) (fin : σ → Option R) : List α → σ → Option R
  | [], a => fin a
  | x :: xs, a => match body x a with
    | none => none
    | some (.inl a') => each body fin xs a'
    | some (.inr r) => some r

/-- counting up to n -/
theorem loop_upto {σ S R : Type} {step : S → Option (S ⊕ R)} (n : Nat) (emb : Nat → σ → S) (st : Nat → σ) (r : R)
    (hstep : ∀ k < n, step (emb k (st k)) = some (.inl (emb (k + 1) (st (k + 1))))) (hend : step (emb n (st n)) = some (.inr r)) : loopF step (emb 0 (st 0)) = some r := by
  have key : ∀ (m k : Nat), k + m = n → loopF step (emb k (st k)) = some r := by
    intro m
    induction m with
    | zero => intro k hk; have : k = n := by omega
              subst this; exact loopF_inr hend
    | succ m ih => intro k hk; rw [loopF_inl (hstep k (by omega))]; exact ih (k + 1) (by omega)
  exact key n 0 (by omega)

/-! ## Words -/
section
variable {R α β : Type}
@[simp] theorem bind_some' (x : β) (f : β → Option R) : N.bind (some x) f = f x := rfl
@[simp] theorem cond_true (x y : Option R) : N.cond true x y = x := rfl
@[simp] theorem cond_false (x y : Option R) : N.cond false x y = y := rfl
theorem cond_if (b : Bool) (x y : Option R) : N.cond b x y = if b = true then x else y := rfl
theorem cond_dec (p : Prop) [Decidable p] (x y : Option R) : N.cond (decide p) x y = if p then x else y := by unfold N.cond; by_cases h : p <;> simp [h]
theorem ite_if (c : Prop) [Decidable c] (x y : Option R) : N.ite c x y = if c then x else y := rfl
theorem nite_pos {c : Prop} [Decidable c] (h : c) (x y : Option R) : N.ite c x y = x := if_pos h
theorem nite_neg {c : Prop} [Decidable c] (h : ¬ c) (x y : Option R) : N.ite c x y = y := if_neg h
theorem lt_d (a b : Int) : N.lt a b = decide (a < b) := rfl
theorem le_d (a b : Int) : N.le a b = decide (a ≤ b) := rfl
theorem gt_d (a b : Int) : N.gt a b = decide (b < a) := rfl
theorem ge_d (a b : Int) : N.ge a b = decide (b ≤ a) := rfl
theorem eq_d (a b : Int) : N.eq a b = decide (a = b) := rfl
theorem ne_d (a b : Int) : N.ne a b = decide (¬ a = b) := by
  unfold N.ne; by_cases h : a = b <;> simp [h]
theorem len_d (xs : List α) : N.len xs = (xs.length : Int) := by simp [N.len]
theorem rd_at (xs : List α) (k : Nat) (hk : k < xs.length) (d : α) : N.rd xs (k : Int) d = xs[k] := by
  simp [N.rd, List.getD, hk]
theorem wrap_id {n : Int} (h1 : -9223372036854775808 ≤ n) (h2 : n < 9223372036854775808) : IntKind.i64.wrap n = n := by
  have e1 : ((2 : Int) ^ IntKind.i64.bits) = 18446744073709551616 := by decide
  have e2 : ((2 : Int) ^ (IntKind.i64.bits - 1)) = 9223372036854775808 := by decide
  have e3 : IntKind.i64.signed = true := rfl
  unfold IntKind.wrap
  rw [e1, e2, e3]
  simp only [Bool.true_and, decide_eq_true_eq]
  split <;> omega
theorem add_id {a b : Int} (h1 : -9223372036854775808 ≤ a + b) (h2 : a + b < 9223372036854775808) : N.add .i64 a b = a + b := wrap_id h1 h2
theorem sub_id {a b : Int} (h1 : -9223372036854775808 ≤ a - b) (h2 : a - b < 9223372036854775808) : N.sub .i64 a b = a - b := wrap_id h1 h2
theorem mul_id {a b : Int} (h1 : -9223372036854775808 ≤ a * b) (h2 : a * b < 9223372036854775808) : N.mul .i64 a b = a * b := wrap_id h1 h2
theorem next_id {k n : Nat} (hk : k < n) (hn : (n : Int) < 9223372036854775808) : N.add .i64 (k : Int) 1 = ((k + 1 : Nat) : Int) := by
  rw [add_id (by omega) (by omega)]; omega
end
end Go.Sh
set_option linter.unusedVariables false
set_option linter.unusedSimpArgs false
namespace Go.Sh
open Go
/-! ## Bounds of data -/
class Data (α : Type) where
  bd : α → Prop
  ok : α → Prop
  le : ∀ x, ok x → bd x
open Data
instance : Data Int := ⟨fun x => -9223372036854775808 ≤ x ∧ x < 9223372036854775808, fun x => -9223372036854775808 ≤ x ∧ x < 9223372036854775808, fun _ h => h⟩
instance : Data Bool := ⟨fun _ => True, fun _ => True, fun _ h => h⟩
instance : Data ByteArray := ⟨fun s => s.size ≤ 4611686018427387904, fun s => s.size ≤ 4611686018427387904, fun _ h => h⟩
instance {α β : Type} [Data α] [Data β] : Data (α × β) := ⟨fun x => bd x.1 ∧ bd x.2, fun x => ok x.1 ∧ ok x.2, fun x h => ⟨le _ h.1, le _ h.2⟩⟩
instance {α : Type} [Data α] : Data (List α) := ⟨fun xs => xs.length ≤ 4611686018427387904 ∧ ∀ x ∈ xs, bd x, fun xs => xs.length ≤ 1048576 ∧ ∀ x ∈ xs, ok x, fun xs h => ⟨by omega, fun x hx => le x (h.2 x hx)⟩⟩
section
variable {α : Type} [Data α]
theorem Data.ok.at {xs : List α} (h : ok xs) {k : Nat} (hk : k < xs.length) : ok xs[k] := h.2 _ (List.getElem_mem hk)
theorem Data.bd.at {xs : List α} (h : bd xs) {k : Nat} (hk : k < xs.length) : bd xs[k] := h.2 _ (List.getElem_mem hk)
theorem Data.ok.sub {xs ys : List α} (h : ok xs) (hs : ys.Sublist xs) : ok ys := ⟨Nat.le_trans hs.length_le h.1, fun x hx => h.2 x (hs.subset hx)⟩
end
/-! ## Words, once more -/
section
variable {R α β : Type}
theorem neB_d (a b : Bool) : N.neB a b = decide (¬ a = b) := by cases a <;> cases b <;> rfl
theorem not_d (p : Prop) [Decidable p] : N.not (decide p) = decide (¬ p) := by unfold N.not; by_cases h : p <;> simp [h]
theorem both_d (p q : Prop) [Decidable p] [Decidable q] : N.both (decide p) (decide q) = decide (p ∧ q) := by unfold N.both; by_cases h : p <;> by_cases h' : q <;> simp [h, h']
theorem not_b (b : Bool) : N.not b = !b := rfl
theorem zip_all_eq [DecidableEq α] : ∀ {xs ys : List α}, xs.length = ys.length → ((List.zip xs ys).all fun p => decide (p.1 = p.2)) = decide (xs = ys)
  | [], [], _ => by simp
  | x :: xs, y :: ys, h => by
    simp only [List.zip_cons_cons, List.all_cons, zip_all_eq (xs := xs) (ys := ys) (by simpa using h)]
    by_cases h1 : x = y <;> by_cases h2 : xs = ys <;> simp [h1, h2]
  | [], _ :: _, h => by simp at h
  | _ :: _, [], h => by simp at h

end
end Go.Sh
set_option linter.unusedVariables false
set_option linter.unusedSimpArgs false
set_option synthInstance.maxSize 100000
set_option maxHeartbeats 1000000
namespace Go.Sh
open Go Data
namespace D
end D
end Go.Sh
set_option linter.unusedVariables false
set_option linter.unusedSimpArgs false
set_option synthInstance.maxSize 100000
set_option maxHeartbeats 1000000
namespace Go.Sh
open Go Data
namespace D
theorem impl_InRange_is (a b c : Int) : impl_InRange a b c = some (decide (b ≤ a ∧ a ≤ c)) := by
  unfold impl_InRange
  simp only [ge_d, le_d, cond_dec]
  by_cases h1 : b ≤ a <;> by_cases h2 : a ≤ c <;> simp [h1, h2]
theorem rem_pos {a b : Int} (ha : 0 ≤ a) : N.rem a b = a % b := by unfold N.rem; exact Int.tmod_eq_emod_of_nonneg ha

end D
end Go.Sh
set_option linter.unusedVariables false
set_option linter.unusedSimpArgs false
set_option synthInstance.maxSize 100000
set_option maxHeartbeats 1000000
namespace Go.Sh
open Go Data
/-! ## Loops that look for something -/
theorem loop_find {α S R : Type} {step : S → Option (S ⊕ R)} (xs : List α) (emb : Nat → S) (p : α → Option R) (r0 : R)
    (hstep : ∀ (k : Nat) (hk : k < xs.length), step (emb k) = some (match p xs[k] with | some r => .inr r | none => .inl (emb (k + 1))))
    (hend : step (emb xs.length) = some (.inr r0)) : loopF step (emb 0) = some ((xs.findSome? p).getD r0) := by
  have key : ∀ (m k : Nat), k + m = xs.length → loopF step (emb k) = some (((xs.drop k).findSome? p).getD r0) := by
    intro m
    induction m with
    | zero =>
      intro k hk
      have hk' : k = xs.length := by omega
      subst hk'
      rw [loopF_inr hend, List.drop_length]; rfl
    | succ m ih =>
      intro k hk
      have hlt : k < xs.length := by omega
      rw [List.drop_eq_getElem_cons hlt, List.findSome?_cons]
      cases hp : p xs[k] with
      | none => rw [loopF_inl (s' := emb (k + 1)) (by rw [hstep k hlt, hp]), ih (k + 1) (by omega)]
      | some r => rw [loopF_inr (r := r) (by rw [hstep k hlt, hp])]; rfl
  simpa using key xs.length 0 (by omega)

theorem loop_all {α S : Type} {step : S → Option (S ⊕ Bool)} (xs : List α) (emb : Nat → S) (p : α → Bool)
    (hstep : ∀ (k : Nat) (hk : k < xs.length), step (emb k) = some (if p xs[k] = true then .inl (emb (k + 1)) else .inr false))
    (hend : step (emb xs.length) = some (.inr true)) : loopF step (emb 0) = some (xs.all p) := by
  rw [loop_find xs emb (fun x => if p x = true then none else some false) true (fun k hk => by rw [hstep k hk]; split <;> rfl) hend]
  congr 1
  clear hstep hend
  induction xs with
  | nil => rfl
  | cons y ys ih2 => rw [List.findSome?_cons, List.all_cons]; cases hp : p y <;> simp [ih2]

/-- looking for a place -/
theorem loop_index {α S : Type} {step : S → Option (S ⊕ Int)} (xs : List α) (emb : Nat → S) (p : α → Bool)
    (hstep : ∀ (k : Nat) (hk : k < xs.length), step (emb k) = some (if p xs[k] = true then .inr (k : Int) else .inl (emb (k + 1))))
    (hend : step (emb xs.length) = some (.inr (-1))) : loopF step (emb 0) = some (if xs.any p = true then (xs.findIdx p : Int) else -1) := by
  have key : ∀ (m k : Nat), k + m = xs.length → loopF step (emb k) = some (if (xs.drop k).any p = true then ((k + (xs.drop k).findIdx p : Nat) : Int) else -1) := by
    intro m
    induction m with
    | zero =>
      intro k hk
      have hk' : k = xs.length := by omega
      subst hk'
      rw [loopF_inr hend, List.drop_length]; rfl
    | succ m ih =>
      intro k hk
      have hlt : k < xs.length := by omega
      rw [List.drop_eq_getElem_cons hlt, List.any_cons, List.findIdx_cons]
      cases hp : p xs[k] with
      | false =>
        rw [loopF_inl (s' := emb (k + 1)) (by rw [hstep k hlt, hp]; rfl), ih (k + 1) (by omega)]
        simp only [Bool.false_or, _root_.cond_false]
        split
        · congr 2; omega
        · rfl
      | true => rw [loopF_inr (r := (k : Int)) (by rw [hstep k hlt, hp]; rfl)]; simp
  simpa using key xs.length 0 (by omega)

namespace D
/-! ## Counts -/
end D
end Go.Sh
set_option linter.unusedVariables false
set_option linter.unusedSimpArgs false
set_option synthInstance.maxSize 100000
set_option maxHeartbeats 1000000
namespace Go.Sh
open Go Data
theorem loop_eq2 {α S : Type} [DecidableEq α] {step : S → Option (S ⊕ Bool)} (xs ys : List α) (emb : Nat → S) (hl : xs.length = ys.length)
    (hstep : ∀ (k : Nat) (hk : k < xs.length) (hk' : k < ys.length), step (emb k) = some (if xs[k] = ys[k] then .inl (emb (k + 1)) else .inr false))
    (hend : step (emb xs.length) = some (.inr true)) : loopF step (emb 0) = some (decide (xs = ys)) := by
  rw [← zip_all_eq hl]
  refine loop_all (xs.zip ys) emb (fun p => decide (p.1 = p.2)) (fun k hk => ?_) ?_
  · have h1 : k < xs.length := by simp at hk; omega
    rw [hstep k h1 (by omega)]
    simp only [List.getElem_zip, decide_eq_true_eq]
  · rw [List.length_zip, ← hl, Nat.min_self]; exact hend

/-- collecting -/
theorem loop_flat {α β : Type} {step : List β × Int → Option ((List β × Int) ⊕ List β)} (xs : List α) (f : α → List β)
    (hstep : ∀ (k : Nat) (hk : k < xs.length), step ((xs.take k).flatMap f, (k : Int)) = some (.inl ((xs.take k).flatMap f ++ f xs[k], ((k + 1 : Nat) : Int))))
    (hend : step (xs.flatMap f, (xs.length : Int)) = some (.inr (xs.flatMap f))) : loopF step ([], 0) = some (xs.flatMap f) := by
  refine loop_upto (r := xs.flatMap f) xs.length (fun k (a : List β) => (a, (k : Int))) (fun k => (xs.take k).flatMap f) (fun k hk => ?_) ?_
  · rw [hstep k hk, List.take_succ_eq_append_getElem hk, List.flatMap_append]; simp
  · rw [List.take_length]; exact hend

theorem flat_len {α β : Type} {f : α → List β} {m : Nat} : ∀ (xs : List α), (∀ x ∈ xs, (f x).length ≤ m) → (xs.flatMap f).length ≤ xs.length * m
  | [], _ => by simp
  | x :: xs, h => by
    have h1 := flat_len xs fun y hy => h y (by simp [hy])
    have h2 := h x (by simp)
    simp only [List.flatMap_cons, List.length_append, List.length_cons, Nat.add_mul]; omega
theorem take_flat_len {α β : Type} {f : α → List β} {m k : Nat} {xs : List α} (h : ∀ x ∈ xs, (f x).length ≤ m) (hk : k ≤ xs.length) : ((xs.take k).flatMap f).length ≤ k * m := by
  have := flat_len (xs.take k) fun y hy => h y (List.mem_of_mem_take hy)
  simpa [Nat.min_eq_left hk] using this

theorem fitsN {α : Type} {xs ys : List α} {b : Nat} (h : xs.length + ys.length ≤ 100000000) (hb : b ≤ 1000000) : N.fits xs ys b := by
  unfold N.fits
  exact Nat.le_trans (Nat.mul_le_mul h hb) (by decide)

namespace D
theorem addr_eq (x y : Address) : N.both (N.eq x.1 y.1) (N.both (N.eq x.2.1 y.2.1) (N.eq x.2.2 y.2.2)) = decide (x = y) := by
  obtain ⟨a, b, c⟩ := x; obtain ⟨d, e, f⟩ := y
  simp only [eq_d, both_d, Prod.mk.injEq]
theorem eq_len {α : Type} [DecidableEq α] {x y : List α} {K : Option Bool} (h : x.length = y.length → K = some (decide (x = y))) : N.cond (N.ne (N.len x) (N.len y)) (some false) K = some (decide (x = y)) := by
  simp only [ne_d, len_d, cond_dec]
  split
  · rename_i h1
    have : ¬ x = y := fun e => h1 (by rw [e])
    simp [this]
  · exact h (by omega)

theorem slices_Equal_int_is {x y : List Int} (h : x.length ≤ 4611686018427387904) : slices_Equal_int x y = some (decide (x = y)) := by
  refine eq_len fun hl => loop_eq2 x y (fun k => (k : Int)) hl (fun k hk hk' => ?_) ?_
  · have h0 : (0 : Int) ≤ (k : Int) := by omega
    have h1 : (k : Int) < (x.length : Int) := by omega
    have h2 : (k : Int) < (y.length : Int) := by omega
    simp only [ite_if]; simp only [lt_d, len_d, cond_dec, h0, h1, h2, if_true, rd_at x k hk, rd_at y k hk', ne_d, next_id hk (by omega)]
    by_cases e : x[k] = y[k] <;> simp [e]
  · simp only [lt_d, len_d, cond_dec]; rw [if_neg (by omega)]
/-! ### Captures, editions -/
theorem impl_EqualResources_is {x y : Resource} (h : ok x) : impl_EqualResources x y = some (decide (x = y)) := by
  unfold impl_EqualResources
  rw [slices_Equal_int_is (by have := h.2.1.1; omega), bind_some', addr_eq]
  obtain ⟨a, b, c⟩ := x; obtain ⟨a', b', c'⟩ := y
  simp only [eq_d, cond_dec, Prod.mk.injEq]
  by_cases e0 : a = a' <;> by_cases e1 : b = b' <;> by_cases e2 : c = c' <;> simp [e0, e1, e2]
theorem impl_sameCapture_is {x y : Capture} (h : ok x) : impl_sameCapture x y = some (decide (x = y)) := by
  unfold impl_sameCapture
  rw [impl_EqualResources_is h.2.2, bind_some', addr_eq]
  obtain ⟨a, b, c⟩ := x; obtain ⟨a', b', c'⟩ := y
  simp only [eq_d, cond_dec, Prod.mk.injEq]
  by_cases e0 : a = a' <;> by_cases e1 : b = b' <;> by_cases e2 : c = c' <;> simp [e0, e1, e2]
theorem impl_EqualCaptures_is {x y : List Capture} (h : ok x) : impl_EqualCaptures x y = some (decide (x = y)) := by
  have e : slices_EqualFunc_Capture_impl_sameCapture x y = some (decide (x = y)) := by
    have hx := h.1
    refine eq_len fun hl => loop_eq2 x y (fun k => (k : Int)) hl (fun k hk hk' => ?_) ?_
    · have h0 : (0 : Int) ≤ (k : Int) := by omega
      have h1 : (k : Int) < (x.length : Int) := by omega
      have h2 : (k : Int) < (y.length : Int) := by omega
      simp only [ite_if]; simp only [lt_d, len_d, cond_dec, h0, h1, h2, if_true, rd_at x k hk, rd_at y k hk', impl_sameCapture_is (h.at hk), bind_some', not_d, next_id hk (by omega)]
      by_cases e : x[k] = y[k] <;> simp [e]
    · simp only [lt_d, len_d, cond_dec]; rw [if_neg (by omega)]
  unfold impl_EqualCaptures
  rw [e]; rfl
end D
end Go.Sh
set_option linter.unusedVariables false
set_option linter.unusedSimpArgs false
set_option synthInstance.maxSize 100000
set_option maxHeartbeats 1000000
namespace Go.Sh
open Go Data
namespace D
end D
end Go.Sh
set_option linter.unusedVariables false
set_option linter.unusedSimpArgs false
set_option synthInstance.maxSize 100000
set_option maxHeartbeats 1000000
namespace Go.Sh
open Go Data
namespace D
/-! ### Exclusions -/
def exclP (x : Exclusion) : Prop := (1 ≤ x.1 ∧ x.1 ≤ 9) ∧ (-1 ≤ x.2.1 ∧ x.2.1 ≤ 99) ∧ 0 ≤ x.2.2.1 ∧ x.2.2.1 ≤ x.2.2.2.1 ∧ x.2.2.2.1 ≤ 2000 ∧ 0 ≤ x.2.2.2.2 ∧ x.2.2.2.2 ≤ 2000
instance (x : Exclusion) : Decidable (exclP x) := by unfold exclP; infer_instance
theorem impl_IsExclusion_is (x : Exclusion) : impl_IsExclusion x = some (decide (exclP x)) := by
  obtain ⟨a, b, c, d, e⟩ := x
  simp only [impl_IsExclusion, exclP, impl_InRange_is, bind_some', cond_dec, le_d]
  by_cases h1 : 1 ≤ a ∧ a ≤ 9 <;> by_cases h2 : -1 ≤ b ∧ b ≤ 99 <;> by_cases h3 : 0 ≤ c ∧ c ≤ d <;> by_cases h4 : d ≤ 2000 <;> by_cases h5 : 0 ≤ e ∧ e ≤ 2000 <;> simp only [h1, h2, h3, h4, h5, if_true, if_false, decide_true, decide_false, true_and, false_and, and_true, and_false, and_self] <;> congr 1 <;> simp <;> omega

/-- what an exclusion hides from some tick on -/
def hidesP (x : Exclusion) (c : Capture) : Bool := decide (exclP x) && decide (x.1 = c.1.1) && (decide (x.2.1 = -1) || decide (x.2.1 = c.1.2.1)) && decide (x.2.2.1 ≤ c.2.1 ∧ c.2.1 ≤ x.2.2.2.1)
theorem impl_Exclusion_hides_is (x : Exclusion) (c : Capture) : impl_Exclusion_hides x c = some (hidesP x c) := by
  unfold impl_Exclusion_hides hidesP
  simp only [impl_IsExclusion_is, impl_InRange_is, bind_some', eq_d, cond_dec]
  have e2 : (c.1.1 = x.1) = (x.1 = c.1.1) := propext eq_comm
  have e4 : (c.1.2.1 = x.2.1) = (x.2.1 = c.1.2.1) := propext eq_comm
  simp only [e2, e4]
  by_cases h1 : exclP x <;> by_cases h2 : x.1 = c.1.1 <;> by_cases h3 : x.2.1 = -1 <;> by_cases h4 : x.2.1 = c.1.2.1 <;> simp [h1, h2, h3, h4]
def hiddenByP (x : Exclusion) (c : Capture) (now : Int) : Bool := decide (x.2.2.2.2 ≤ now) && hidesP x c
theorem impl_IsHiddenBy_is (x : Exclusion) (c : Capture) (now : Int) : impl_IsHiddenBy x c now = some (hiddenByP x c now) := by
  unfold impl_IsHiddenBy hiddenByP
  rw [impl_Exclusion_hides_is, bind_some', ge_d, cond_dec]
  by_cases h : x.2.2.2.2 ≤ now <;> simp [h]
def firstStep (c : Capture) (f : Int) (x : Exclusion) : Int := if hidesP x c = true ∧ (f < 0 ∨ x.2.2.2.2 < f) then x.2.2.2.2 else f
def firstHiddenP (c : Capture) (l : List Exclusion) : Int := l.foldl (firstStep c) (-1)
theorem impl_FirstHidden_is {c : Capture} {l : List Exclusion} (h : l.length ≤ 4611686018427387904) : impl_FirstHidden c l = some (firstHiddenP c l) := by
  refine loop_upto (r := firstHiddenP c l) l.length (fun k (a : Int) => (a, (k : Int))) (fun k => (l.take k).foldl (firstStep c) (-1)) (fun k hk => ?_) ?_
  · have h0 : (0 : Int) ≤ (k : Int) := by omega
    have h1 : (k : Int) < (l.length : Int) := by omega
    simp only [ite_if]; simp only [lt_d, len_d, cond_dec, h0, h1, if_true, rd_at l k hk, impl_Exclusion_hides_is, bind_some', next_id hk (by omega)]
    rw [List.take_succ_eq_append_getElem hk, List.foldl_append, List.foldl_cons, List.foldl_nil]
    generalize (l.take k).foldl (firstStep c) (-1) = f
    unfold firstStep
    by_cases c1 : hidesP l[k] c = true <;> by_cases c2 : f < 0 <;> by_cases c3 : (l[k]).2.2.2.2 < f <;> simp [c1, c2, c3]
  · simp only [lt_d, len_d, cond_dec, List.take_length]; rw [if_neg (by omega)]; rfl
theorem cut_one {α : Type} (l : List α) (k : Nat) (hk : k < l.length) : N.cut l (k : Int) ((k + 1 : Nat) : Int) = [l[k]] := by
  unfold N.cut
  simp only [Int.toNat_natCast]
  rw [List.take_succ_eq_append_getElem hk, List.drop_append_of_le_length (by simp; omega), List.drop_eq_nil_of_le (by simp; omega)]
  rfl
end D
end Go.Sh
set_option linter.unusedVariables false
set_option linter.unusedSimpArgs false
set_option synthInstance.maxSize 100000
set_option maxHeartbeats 1000000
namespace Go.Sh
open Go Data
namespace D
end D
end Go.Sh
set_option linter.unusedVariables false
set_option linter.unusedSimpArgs false
set_option synthInstance.maxSize 100000
set_option maxHeartbeats 1000000
namespace Go.Sh
open Go Data
namespace D
end D
end Go.Sh
set_option linter.unusedVariables false
set_option linter.unusedSimpArgs false
set_option synthInstance.maxSize 100000
set_option maxHeartbeats 1000000
namespace Go.Sh
open Go Data
namespace D
end D
end Go.Sh
set_option linter.unusedVariables false
set_option linter.unusedSimpArgs false
set_option synthInstance.maxSize 100000
set_option maxHeartbeats 1000000
namespace Go.Sh
open Go Data
namespace D
end D
end Go.Sh
set_option linter.unusedVariables false
set_option linter.unusedSimpArgs false
set_option synthInstance.maxSize 100000
set_option maxHeartbeats 1000000
namespace Go.Sh
open Go Data
theorem nilc_same {α : Type} {x : List α} {y : Option (List α)} (h : y = some x) : N.nilc (N.isE x) (some []) y = some x := by
  unfold N.nilc
  subst h
  cases x with
  | nil => simp [N.isE]
  | cons a x => simp [N.isE]

namespace D
/-! ## Copies -/
theorem slices_Clone_int_is {l : List Int} (h : l.length ≤ 100000000) : slices_Clone_int l = some l := by
  unfold slices_Clone_int
  refine nilc_same ?_
  rw [nite_pos (fitsN (by simpa using h) (by omega))]; simp [N.app]
theorem impl_copyResource_is {r : Resource} (h : ok r) : impl_copyResource r = some (r.1, r.2.1, r.2.2.1, r.2.2.2.1, r.2.2.2.2) := by
  have := h.2.1.1
  unfold impl_copyResource
  rw [slices_Clone_int_is (by omega)]; rfl
theorem impl_copyCaptures_is {l : List Capture} (h : ok l) : impl_copyCaptures l = some l := by
  have hl := h.1
  refine (loop_flat l (fun c => [c]) (fun k hk => ?_) ?_).trans (by simp)
  · have h0 : (0 : Int) ≤ (k : Int) := by omega
    have h1 : (k : Int) < (l.length : Int) := by omega
    have h2 := take_flat_len (f := fun c : Capture => [c]) (m := 1) (xs := l) (fun x _ => by simp) (Nat.le_of_lt hk)
    simp only [ite_if]; simp only [lt_d, len_d, cond_dec, h0, h1, if_true, rd_at l k hk, next_id hk (by omega), impl_copyResource_is (h.at hk).2.2, bind_some']
    rw [if_pos (fitsN (by show (List.flatMap _ (l.take k)).length + 1 ≤ 100000000; omega) (by omega))]; rfl
  · simp only [lt_d, len_d, cond_dec]; rw [if_neg (by omega)]

/-! ## What is still seen -/
def visP (l : List Capture) (ex : List Exclusion) (now : Int) : List Capture := l.flatMap fun c => if (ex.any fun x => hiddenByP x c now) = true then [] else [c]
theorem vis_ok {l : List Capture} (h : ok l) (ex : List Exclusion) (now : Int) : ok (visP l ex now) := by
  have : visP l ex now = l.filter fun c => !(ex.any fun x => hiddenByP x c now) := by
    unfold visP
    clear h
    induction l with
    | nil => rfl
    | cons c l ih => rw [List.flatMap_cons, ih, List.filter_cons]; cases (ex.any fun x => hiddenByP x c now) <;> rfl
  rw [this]; exact h.sub List.filter_sublist
theorem slices_IndexFunc_vis_is {ex : List Exclusion} (h : ex.length ≤ 4611686018427387904) (c : Capture) (now : Int) : slices_IndexFunc_Exclusion_impl_VisibleAt_1 ex (c, now) = some (if (ex.any fun x => hiddenByP x c now) = true then (ex.findIdx fun x => hiddenByP x c now : Int) else -1) := by
  refine loop_index ex (fun k => ((k : Nat) : Int)) (fun x => hiddenByP x c now) (fun k hk => ?_) ?_
  · have h0 : (0 : Int) ≤ (k : Int) := by omega
    have h1 : (k : Int) < (ex.length : Int) := by omega
    simp only [ite_if]; simp only [lt_d, len_d, cond_dec, h0, h1, if_true, rd_at ex k hk, impl_VisibleAt_1, impl_IsHiddenBy_is, bind_some', next_id hk (by omega), cond_if]
    cases hiddenByP ex[k] c now <;> rfl
  · simp only [lt_d, len_d, cond_dec]; rw [if_neg (by omega)]
theorem slices_ContainsFunc_vis_is {ex : List Exclusion} (h : ex.length ≤ 4611686018427387904) (c : Capture) (now : Int) : slices_ContainsFunc_Exclusion_impl_VisibleAt_1 ex (c, now) = some (ex.any fun x => hiddenByP x c now) := by
  unfold slices_ContainsFunc_Exclusion_impl_VisibleAt_1
  rw [slices_IndexFunc_vis_is h, bind_some', ge_d]
  cases (ex.any fun x => hiddenByP x c now) <;> simp
theorem impl_VisibleAt_is {l : List Capture} {ex : List Exclusion} (h : ok l) (hx : ok ex) (now : Int) : impl_VisibleAt l ex now = some (visP l ex now) := by
  have hl := h.1; have hl2 := hx.1
  refine loop_flat l (fun c => if (ex.any fun x => hiddenByP x c now) = true then [] else [c]) (fun k hk => ?_) ?_
  · have h0 : (0 : Int) ≤ (k : Int) := by omega
    have h1 : (k : Int) < (l.length : Int) := by omega
    have h2 := take_flat_len (f := fun c : Capture => if (ex.any fun x => hiddenByP x c now) = true then [] else [c]) (m := 1) (xs := l) (fun x _ => by split <;> simp) (Nat.le_of_lt hk)
    simp only [ite_if]; simp only [lt_d, len_d, cond_dec, h0, h1, if_true, rd_at l k hk, next_id hk (by omega), slices_ContainsFunc_vis_is (ex := ex) (by omega), bind_some', not_b, cond_if]
    cases c : (ex.any fun x => hiddenByP x l[k] now) with
    | true => simp
    | false =>
      simp only [Bool.not_false, if_true, Bool.false_eq_true, if_false]
      rw [if_pos (fitsN (by show (List.flatMap _ (l.take k)).length + 1 ≤ 100000000; omega) (by omega))]; rfl
  · simp only [lt_d, len_d, cond_dec]; rw [if_neg (by omega)]; show Option.map Sum.inr (N.bind (impl_copyCaptures (visP l ex now)) _) = _; rw [impl_copyCaptures_is (vis_ok h ex now)]; rfl
theorem vis_len (l : List Capture) (ex : List Exclusion) (now : Int) : (visP l ex now).length ≤ l.length := by
  have := flat_len (f := fun c : Capture => if (ex.any fun x => hiddenByP x c now) = true then [] else [c]) (m := 1) l (fun x _ => by split <;> simp)
  unfold visP; omega
def hiddenCountP (l : List Capture) (ex : List Exclusion) (now : Int) : Int := (l.length : Int) - ((visP l ex now).length : Int)
theorem impl_HiddenCount_is {l : List Capture} {ex : List Exclusion} (h : ok l) (hx : ok ex) (now : Int) : impl_HiddenCount l ex now = some (hiddenCountP l ex now) := by
  have := vis_len l ex now; have := h.1
  unfold impl_HiddenCount
  rw [impl_VisibleAt_is h hx, bind_some', len_d, len_d, sub_id (by omega) (by omega)]; rfl
end D
end Go.Sh
set_option linter.unusedVariables false
set_option linter.unusedSimpArgs false
set_option synthInstance.maxSize 100000
set_option maxHeartbeats 1000000
namespace Go.Sh
open Go Data
/-! ## What is drawn: it comes back, and keeps its bounds -/
def Gets {α : Type} (P : α → Prop) (r : Option α) : Prop := ∃ x, r = some x ∧ P x
section
variable {α β S R : Type} {P : α → Prop} {Q : R → Prop}
theorem Gets.pure {x : R} (h : Q x) : Gets Q (some x) := ⟨x, rfl, h⟩
theorem Gets.bind {x : Option α} {f : α → Option R} (h : Gets P x) (hf : ∀ a, P a → Gets Q (f a)) : Gets Q (N.bind x f) := by
  obtain ⟨a, rfl, ha⟩ := h; exact hf a ha
theorem Gets.cond {b : Bool} {x y : Option R} (h1 : b = true → Gets Q x) (h2 : b = false → Gets Q y) : Gets Q (N.cond b x y) := by
  unfold N.cond; cases b
  · exact h2 rfl
  · exact h1 rfl
theorem Gets.ite {c : Prop} [Decidable c] {x y : Option R} (hc : c) (h : Gets Q x) : Gets Q (N.ite c x y) := by rw [nite_pos hc]; exact h
theorem Gets.nite {c : Prop} [Decidable c] {x y : Option R} (hc : ¬ c) (h : Gets Q y) : Gets Q (N.ite c x y) := by rw [nite_neg hc]; exact h
theorem Gets.let_ {x : α} {f : α → Option R} (h : Gets Q (f x)) : Gets Q (N.let_ x f) := h
theorem Gets.mono {Q' : R → Prop} {x : Option R} (h : Gets Q x) (hq : ∀ a, Q a → Q' a) : Gets Q' x := by
  obtain ⟨a, e, ha⟩ := h; exact ⟨a, e, hq a ha⟩
theorem Gets.loop {step : S → Option (S ⊕ R)} (I : S → Prop) (m : S → Nat)
    (hs : ∀ s, I s → Gets (fun r => match r with | .inl s' => I s' ∧ m s' < m s | .inr r => Q r) (step s)) (s : S) (h : I s) : Gets Q (loopF step s) := by
  generalize hn : m s = n
  induction n using Nat.strongRecOn generalizing s with
  | ind n ih =>
    obtain ⟨r, e, hr⟩ := hs s h
    cases r with
    | inl s' => rw [loopF_inl e]; exact ih (m s') (by rw [← hn]; exact hr.2) s' hr.1 rfl
    | inr r => exact ⟨r, loopF_inr e, hr⟩
end
theorem wrap_in (n : Int) : -9223372036854775808 ≤ IntKind.i64.wrap n ∧ IntKind.i64.wrap n < 9223372036854775808 := by
  have e1 : ((2 : Int) ^ IntKind.i64.bits) = 18446744073709551616 := by decide
  have e2 : ((2 : Int) ^ (IntKind.i64.bits - 1)) = 9223372036854775808 := by decide
  have e3 : IntKind.i64.signed = true := rfl
  unfold IntKind.wrap
  rw [e1, e2, e3]
  simp only [Bool.true_and, decide_eq_true_eq]
  split <;> omega
theorem ok_add (a b : Int) : ok (N.add .i64 a b) := wrap_in _
theorem ok_sub (a b : Int) : ok (N.sub .i64 a b) := wrap_in _
theorem ok_num {x : Int} (h1 : -9223372036854775808 ≤ x) (h2 : x < 9223372036854775808) : ok x := ⟨h1, h2⟩
theorem ok_below {x n : Int} (h : 0 ≤ x ∧ x < n) (hn : n ≤ 1000000000) : ok x := ⟨by omega, by omega⟩
theorem and_255 (a : Int) : 0 ≤ N.and .i64 a 255 ∧ N.and .i64 a 255 ≤ 255 := by
  have h : (BitVec.ofInt 64 a &&& BitVec.ofInt 64 255).toNat ≤ 255 := by
    rw [BitVec.toNat_and]; exact Nat.and_le_right
  have e : N.and .i64 a 255 = (((BitVec.ofInt 64 a &&& BitVec.ofInt 64 255).toNat : Nat) : Int) := by
    show IntKind.i64.wrap _ = _
    exact wrap_id (by show _ ≤ (((BitVec.ofInt 64 a &&& BitVec.ofInt 64 255).toNat : Nat) : Int); omega) (by show (((BitVec.ofInt 64 a &&& BitVec.ofInt 64 255).toNat : Nat) : Int) < _; omega)
  rw [e]; omega

def few {α : Type} [Data α] (n : Nat) (xs : List α) : Prop := xs.length ≤ n ∧ ∀ x ∈ xs, ok x
theorem few.ok {α : Type} [Data α] {n : Nat} {xs : List α} (h : few n xs) (hn : n ≤ 1048576) : ok xs := ⟨Nat.le_trans h.1 hn, h.2⟩
theorem few.app {α : Type} [Data α] {n m : Nat} {xs : List α} {x : α} (h : few n xs) (hx : Data.ok x) (hm : n + 1 ≤ m) : few m (N.app xs [x]) :=
  ⟨by have := h.1; simp [N.app]; omega, fun y hy => by
    rcases List.mem_append.1 hy with hy | hy
    · exact h.2 y hy
    · simp at hy; subst hy; exact hx⟩
theorem few.set {α : Type} [Data α] {n : Nat} {xs : List α} {x : α} {i : Int} (h : few n xs) (hx : Data.ok x) : few n (N.set xs i x) :=
  ⟨by have := h.1; simp [N.set]; omega, fun y hy => by
    rcases List.mem_or_eq_of_mem_set hy with hy | hy
    · exact h.2 y hy
    · subst hy; exact hx⟩
theorem few.rd {α : Type} [Data α] {n : Nat} {xs : List α} {i : Int} {d : α} (h : few n xs) (hd : Data.ok d) : Data.ok (N.rd xs i d) := by
  unfold N.rd
  rw [List.getD_eq_getElem?_getD]
  cases e : xs[i.toNat]? with
  | none => exact hd
  | some x => exact h.2 x (List.mem_of_getElem? e)
theorem few.nil {α : Type} [Data α] {n : Nat} : few n ([] : List α) := ⟨by simp, fun _ h => by cases h⟩

/-- count-down loops that add one element each -/
theorem Gets.fill {α C : Type} [Data α] {step : List α × Int × C → Option ((List α × Int × C) ⊕ (List α × C))} {K : C → Prop} {m : Nat} (hm : m ≤ 1000)
    (hs : ∀ xs n c, K c → 0 < n → n ≤ 1000 → few m xs → Gets (fun r => ∃ x c', r = .inl (N.app xs [x], N.sub .i64 n 1, c') ∧ ok x ∧ K c') (step (xs, n, c)))
    (he : ∀ xs n c, n ≤ 0 → step (xs, n, c) = some (.inr (xs, c))) {n : Int} {c : C} (hn0 : 0 ≤ n) (hn : n ≤ m) (hc : K c) :
    Gets (fun r => few m r.1 ∧ K r.2) (loopF step ([], n, c)) := by
  refine Gets.loop (I := fun s => (s.1.length : Int) + s.2.1 ≤ m ∧ 0 ≤ s.2.1 ∧ (∀ x ∈ s.1, ok x) ∧ K s.2.2) (m := fun s => s.2.1.toNat) (fun s h => ?_) _ ⟨by simpa using hn, hn0, fun _ h => (by cases h), hc⟩
  obtain ⟨xs, n, c⟩ := s
  obtain ⟨h1, h2, h3, h4⟩ := h
  simp only at h1 h2 h3 h4
  by_cases hn : 0 < n
  · obtain ⟨r, e, x, c', rfl, hx, hk⟩ := hs xs n c h4 hn (by omega) ⟨by omega, h3⟩
    refine ⟨_, e, ?_⟩
    have e1 : N.sub .i64 n 1 = n - 1 := sub_id (by omega) (by omega)
    simp only [e1]
    refine ⟨⟨by simp [N.app]; omega, by omega, ?_, hk⟩, by omega⟩
    exact (few.app (n := xs.length) ⟨Nat.le_refl _, h3⟩ hx (Nat.le_refl _)).2
  · exact ⟨_, he xs n c (by omega), ⟨by simp only; omega, h3⟩, h4⟩

namespace D
/-! ## The source of bytes -/
def curOk (c : l1Cur) : Prop := 0 ≤ c.2.1 ∧ c.2.1 ≤ (c.1.length : Int) ∧ c.1.length ≤ 1048576

theorem spec_l1New_is {x : List Int} (h : x.length ≤ 1048576) : Gets curOk (spec_l1New x) := by
  refine Gets.loop (I := fun s => 0 ≤ s.2) (m := fun s => x.length - s.2.toNat) (fun s hs => ?_) _ (by show (0 : Int) ≤ 0; omega)
  obtain ⟨a, i⟩ := s
  simp only at hs
  refine Gets.cond (fun h1 => Gets.cond (fun h2 => Gets.ite hs (Gets.ite ?_ (Gets.pure ?_))) fun _ => Gets.pure ⟨by simp only; omega, by simp only; omega, h⟩) fun _ => Gets.pure ⟨by simp only; omega, by simp only; omega, h⟩
  · simpa [N.lt] using h1
  · simp only [lt_d, len_d, decide_eq_true_eq] at h1
    have e : N.add .i64 i 1 = i + 1 := add_id (by omega) (by omega)
    simp only [e]; omega

theorem spec_l1Byte_is {c : l1Cur} (h : curOk c) : Gets (fun r => (0 ≤ r.1 ∧ r.1 ≤ 255) ∧ curOk r.2) (spec_l1Byte c) := by
  obtain ⟨xs, i, s⟩ := c
  obtain ⟨h1, h2, h3⟩ := h
  simp only at h1 h2 h3
  refine Gets.cond (fun h4 => Gets.ite h1 (Gets.ite ?_ (Gets.pure ⟨and_255 _, ?_⟩))) fun _ => Gets.pure ⟨and_255 _, h1, h2, h3⟩
  · simpa [N.lt] using h4
  · simp only [lt_d, len_d, decide_eq_true_eq] at h4
    have e : N.add .i64 i 1 = i + 1 := add_id (by omega) (by omega)
    refine ⟨?_, ?_, h3⟩ <;> simp only [e] <;> omega

theorem spec_l1Below_is {c : l1Cur} (h : curOk c) {n : Int} (h0 : 0 < n) : Gets (fun r => (0 ≤ r.1 ∧ r.1 < n) ∧ curOk r.2) (spec_l1Below c n) := by
  refine Gets.cond (fun h1 => ?_) fun _ => Gets.cond (fun _ => ?_) fun _ => ?_
  · simp only [le_d, decide_eq_true_eq] at h1; omega
  · refine Gets.bind (spec_l1Byte_is h) fun r ⟨h1, h2⟩ => Gets.nite (by omega) (Gets.pure ⟨?_, h2⟩)
    simp only [rem_pos h1.1]; exact ⟨Int.emod_nonneg _ (by omega), Int.emod_lt_of_pos _ h0⟩
  · refine Gets.bind (spec_l1Byte_is h) fun r ⟨h1, h2⟩ => Gets.bind (spec_l1Byte_is h2) fun r3 ⟨h3, h4⟩ => Gets.bind (spec_l1Byte_is h4) fun r4 ⟨h5, h6⟩ => Gets.nite (by omega) (Gets.pure ⟨?_, h6⟩)
    have e1 : N.mul .i64 r.1 65536 = r.1 * 65536 := mul_id (by omega) (by omega)
    have e2 : N.mul .i64 r3.1 256 = r3.1 * 256 := mul_id (by omega) (by omega)
    have e3 : N.add .i64 (r.1 * 65536) (r3.1 * 256) = r.1 * 65536 + r3.1 * 256 := add_id (by omega) (by omega)
    have e4 : N.add .i64 (r.1 * 65536 + r3.1 * 256) r4.1 = r.1 * 65536 + r3.1 * 256 + r4.1 := add_id (by omega) (by omega)
    simp only [e1, e2, e3, e4]
    rw [rem_pos (by omega)]
    exact ⟨Int.emod_nonneg _ (by omega), Int.emod_lt_of_pos _ h0⟩

theorem spec_l1Int_is {c : l1Cur} (h : curOk c) {l : List Int} (hl : 0 < l.length) (hk : ∀ x ∈ l, ok x) : Gets (fun r => (ok r.1 ∧ r.1 ∈ l) ∧ curOk r.2) (spec_l1Int c l) := by
  refine Gets.bind (spec_l1Below_is h (n := N.len l) (by rw [len_d]; omega)) fun r ⟨⟨h1, h2⟩, h3⟩ => Gets.ite h1 (Gets.ite h2 (Gets.pure ⟨?_, h3⟩))
  rw [len_d] at h2
  have e : r.1 = ((r.1.toNat : Nat) : Int) := by omega
  have hm : N.rd l r.1 0 ∈ l := by rw [e, rd_at l r.1.toNat (by omega)]; exact List.getElem_mem _
  exact ⟨hk _ hm, hm⟩

/-! ## Addresses and resources -/
theorem spec_l4Draw_is {c : l1Cur} (h : curOk c) : Gets (fun r => ok r.1 ∧ curOk r.2) (spec_l4Draw c) :=
  Gets.bind (spec_l1Below_is h (by omega)) fun r ⟨h1, h2⟩ => Gets.bind (spec_l1Below_is h2 (by omega)) fun r3 ⟨h3, h4⟩ => Gets.bind (spec_l1Below_is h4 (by omega)) fun r4 ⟨h5, h6⟩ =>
    Gets.pure ⟨⟨ok_add _ _, ok_below h3 (by omega), ok_below h5 (by omega)⟩, h6⟩
theorem spec_l4Raw_is {c : l1Cur} (h : curOk c) : Gets (fun r => ok r.1 ∧ curOk r.2) (spec_l4Raw c) :=
  Gets.bind (spec_l1Int_is h (by simp) (by simp [ok])) fun r ⟨h1, h2⟩ => Gets.pure ⟨h1.1, h2⟩
theorem spec_l4Any_is {c : l1Cur} (h : curOk c) : Gets (fun r => ok r.1 ∧ curOk r.2) (spec_l4Any c) := by
  refine Gets.bind (spec_l4Draw_is h) fun r ⟨⟨a1, a2, a3⟩, h2⟩ => Gets.bind (spec_l1Below_is h2 (by omega)) fun r2 ⟨h3, h4⟩ => ?_
  refine Gets.cond (fun _ => ?_) fun _ => Gets.cond (fun _ => ?_) fun _ => Gets.cond (fun _ => ?_) fun _ => Gets.pure ⟨⟨a1, a2, a3⟩, h4⟩
  all_goals exact Gets.bind (spec_l4Raw_is h4) fun r5 ⟨h5, h6⟩ => Gets.pure ⟨⟨by assumption, by assumption, by assumption⟩, h6⟩
theorem spec_l5Body_is {c : l1Cur} (h : curOk c) : Gets (fun r => few 5 r.1 ∧ curOk r.2) (spec_l5Body c) := by
  refine Gets.bind (spec_l1Below_is h (n := 5) (by omega)) fun r ⟨h1, h2⟩ => ?_
  refine Gets.fill (K := curOk) (m := 5) (by omega) (fun xs n c hc h0 h9 hx => ?_) (fun xs n c hn => ?_) h1.1 (by omega) h2
  · refine Gets.cond (fun _ => ?_) fun hf => ?_
    · refine Gets.bind (spec_l1Below_is hc (n := 9) (by omega)) fun r2 ⟨h3, h4⟩ => Gets.ite (fitsN (by have := hx.1; simp; omega) (by omega)) (Gets.pure ⟨_, _, rfl, ok_num (by omega) (by omega), h4⟩)
    · simp only [gt_d, decide_eq_false_iff_not] at hf; omega
  · simp only [gt_d, cond_dec]; rw [if_neg (by omega)]
def resOk (r : Int × List Int × Int × Int × Int × l1Cur) : Prop := (ok r.1 ∧ few 7 r.2.1 ∧ ok r.2.2.1 ∧ ok r.2.2.2.1 ∧ ok r.2.2.2.2.1) ∧ curOk r.2.2.2.2.2
theorem few.mono {α : Type} [Data α] {n m : Nat} {xs : List α} (h : few n xs) (hm : n ≤ m) : few m xs := ⟨Nat.le_trans h.1 hm, h.2⟩
theorem spec_l5Draw_is {c : l1Cur} (h : curOk c) : Gets (fun r => (ok r.1 ∧ few 5 r.2.1 ∧ ok r.2.2.1 ∧ ok r.2.2.2.1 ∧ ok r.2.2.2.2.1) ∧ curOk r.2.2.2.2.2) (spec_l5Draw c) := by
  have z : ∀ n : Int, 0 ≤ n → n ≤ 9 → ok n := fun n h1 h2 => ok_num (by omega) (by omega)
  refine Gets.bind (spec_l1Below_is h (by omega)) fun r ⟨h1, h2⟩ => Gets.cond (fun _ => ?_) fun _ => Gets.cond (fun _ => Gets.pure ⟨⟨z 4 (by omega) (by omega), few.nil, z 0 (by omega) (by omega), z 0 (by omega) (by omega), z 0 (by omega) (by omega)⟩, h2⟩) fun _ => ?_
  · exact Gets.bind (spec_l4Draw_is h2) fun r ⟨⟨a1, a2, a3⟩, h3⟩ => Gets.pure ⟨⟨z 3 (by omega) (by omega), few.nil, a1, a2, a3⟩, h3⟩
  · exact Gets.bind (spec_l1Below_is h2 (by omega)) fun r3 ⟨h3, h4⟩ => Gets.bind (spec_l5Body_is h4) fun r4 ⟨h5, h6⟩ => Gets.pure ⟨⟨ok_add _ _, h5, z 0 (by omega) (by omega), z 0 (by omega) (by omega), z 0 (by omega) (by omega)⟩, h6⟩
theorem spec_l5Any_is {c : l1Cur} (h : curOk c) : Gets resOk (spec_l5Any c) := by
  refine Gets.bind (spec_l5Draw_is h) fun r ⟨⟨a1, a2, a3, a4, a5⟩, h2⟩ => Gets.bind (spec_l1Below_is h2 (by omega)) fun r2 ⟨h3, h4⟩ => ?_
  have b2 := few.mono a2 (show 5 ≤ 7 by omega)
  refine Gets.cond (fun _ => ?_) fun _ => Gets.cond (fun _ => ?_) fun _ => Gets.cond (fun _ => ?_) fun _ => Gets.cond (fun _ => ?_) fun _ => Gets.pure ⟨⟨a1, b2, a3, a4, a5⟩, h4⟩
  · exact Gets.bind (spec_l1Int_is h4 (by simp) (by simp [ok])) fun r3 ⟨h5, h6⟩ => Gets.pure ⟨⟨h5.1, b2, a3, a4, a5⟩, h6⟩
  · exact Gets.bind (spec_l1Int_is h4 (by simp) (by simp [ok])) fun r3 ⟨h5, h6⟩ => Gets.ite (fitsN (by have := a2.1; simp; omega) (by omega)) (Gets.pure ⟨⟨a1, few.app a2 h5.1 (by omega), a3, a4, a5⟩, h6⟩)
  · exact Gets.pure ⟨⟨a1, ⟨by simp, by simp [ok]⟩, a3, a4, a5⟩, h4⟩
  · exact Gets.bind (spec_l4Any_is h4) fun r3 ⟨⟨h5, h6, h7⟩, h8⟩ => Gets.pure ⟨⟨a1, b2, h5, h6, h7⟩, h8⟩

/-! ## Captures -/
theorem spec_l15Draw_is {c : l1Cur} (h : curOk c) : Gets (fun r => few 8 r.1 ∧ curOk r.2) (spec_l15Draw c) := by
  refine Gets.bind (spec_l1Below_is h (n := 8) (by omega)) fun r ⟨h1, h2⟩ => ?_
  refine Gets.fill (K := curOk) (m := 8) (by omega) (fun xs n c hc h0 h9 hx => ?_) (fun xs n c hn => ?_) h1.1 (by omega) h2
  · refine Gets.cond (fun _ => ?_) fun hf => ?_
    · refine Gets.bind (spec_l4Draw_is hc) fun r2 ⟨h3, h4⟩ => Gets.bind (spec_l1Below_is h4 (n := 20) (by omega)) fun r3 ⟨h5, h6⟩ => Gets.bind (spec_l5Draw_is h6) fun r4 ⟨⟨a1, a2, a3, a4, a5⟩, h8⟩ =>
        Gets.ite (fitsN (by have := hx.1; simp; omega) (by omega)) (Gets.pure ⟨_, _, rfl, ⟨h3, ok_below h5 (by omega), a1, a2.ok (by omega), a3, a4, a5⟩, h8⟩)
    · simp only [gt_d, decide_eq_false_iff_not] at hf; omega
  · simp only [gt_d, cond_dec]; rw [if_neg (by omega)]
theorem cap0 : ok (((0, 0, 0), 0, (0, [], (0, 0, 0))) : Capture) := by
  have z : ok (0 : Int) := ok_num (by omega) (by omega)
  exact ⟨⟨z, z, z⟩, z, z, ⟨by simp, fun _ h => by cases h⟩, z, z, z⟩
theorem spec_l15Any_is {c : l1Cur} (h : curOk c) : Gets (fun r => few 8 r.1 ∧ curOk r.2) (spec_l15Any c) := by
  refine Gets.bind (spec_l15Draw_is h) fun r ⟨h1, h2⟩ => Gets.cond (fun _ => Gets.pure ⟨h1, h2⟩) fun hn => ?_
  simp only [eq_d, decide_eq_false_iff_not] at hn
  have h0 : 0 < N.len r.1 := by rw [len_d] at hn ⊢; omega
  refine Gets.bind (spec_l1Below_is h2 h0) fun r2 ⟨⟨i0, i1⟩, h4⟩ => Gets.bind (spec_l1Below_is h4 (by omega)) fun r3 ⟨_, h6⟩ => ?_
  have hr : ok (N.rd r.1 r2.1 (((0, 0, 0), 0, (0, [], (0, 0, 0))) : Capture)) := few.rd h1 cap0
  obtain ⟨k1, k2, k3⟩ := hr
  refine Gets.cond (fun _ => ?_) fun _ => Gets.cond (fun _ => ?_) fun _ => Gets.cond (fun _ => ?_) fun _ => Gets.pure ⟨h1, h6⟩
  · exact Gets.bind (spec_l4Any_is h6) fun r4 ⟨h7, h8⟩ => Gets.ite i0 (Gets.ite i1 (Gets.let_ (Gets.pure ⟨h1.set ⟨h7, k2, k3⟩, h8⟩)))
  · exact Gets.bind (spec_l1Int_is h6 (by simp) (by simp [ok])) fun r4 ⟨h7, h8⟩ => Gets.ite i0 (Gets.ite i1 (Gets.let_ (Gets.pure ⟨h1.set ⟨k1, h7.1, k3⟩, h8⟩)))
  · exact Gets.bind (spec_l5Any_is h6) fun r4 ⟨⟨a1, a2, a3, a4, a5⟩, h8⟩ => Gets.ite i0 (Gets.ite i1 (Gets.let_ (Gets.pure ⟨h1.set ⟨k1, k2, a1, a2.ok (by omega), a3, a4, a5⟩, h8⟩)))

/-! ## Exclusions -/
theorem spec_l25Draw_is {c : l1Cur} (h : curOk c) : Gets (fun r => ok r.1 ∧ curOk r.2) (spec_l25Draw c) :=
  Gets.bind (spec_l1Below_is h (by omega)) fun r ⟨h1, h2⟩ => Gets.bind (spec_l1Below_is h2 (by omega)) fun r3 ⟨h3, h4⟩ => Gets.bind (spec_l1Below_is h4 (by omega)) fun r4 ⟨h5, h6⟩ =>
    Gets.bind (spec_l1Below_is h6 (by omega)) fun r5 ⟨h7, h8⟩ => Gets.bind (spec_l1Below_is h8 (by omega)) fun r6 ⟨h9, h10⟩ =>
    Gets.pure ⟨⟨ok_add _ _, ok_sub _ _, ok_below h1 (by omega), ok_add _ _, ok_below h9 (by omega)⟩, h10⟩
theorem spec_l25Any_is {c : l1Cur} (h : curOk c) : Gets (fun r => ok r.1 ∧ curOk r.2) (spec_l25Any c) := by
  refine Gets.bind (spec_l25Draw_is h) fun r ⟨⟨a1, a2, a3, a4, a5⟩, h2⟩ => Gets.bind (spec_l1Below_is h2 (by omega)) fun r2 ⟨h3, h4⟩ => ?_
  refine Gets.cond (fun _ => ?_) fun _ => Gets.cond (fun _ => ?_) fun _ => Gets.cond (fun _ => ?_) fun _ => Gets.cond (fun _ => ?_) fun _ => Gets.cond (fun _ => ?_) fun _ => Gets.pure ⟨⟨a1, a2, a3, a4, a5⟩, h4⟩
  · exact Gets.bind (spec_l4Raw_is h4) fun r3 ⟨h5, h6⟩ => Gets.pure ⟨⟨h5, a2, a3, a4, a5⟩, h6⟩
  · exact Gets.bind (spec_l1Int_is h4 (by simp) (by simp [ok])) fun r3 ⟨h5, h6⟩ => Gets.pure ⟨⟨a1, h5.1, a3, a4, a5⟩, h6⟩
  · exact Gets.bind (spec_l1Int_is h4 (by simp) (by simp [ok])) fun r3 ⟨h5, h6⟩ => Gets.pure ⟨⟨a1, a2, h5.1, a4, a5⟩, h6⟩
  · exact Gets.bind (spec_l1Int_is h4 (by simp) (by simp [ok])) fun r3 ⟨h5, h6⟩ => Gets.pure ⟨⟨a1, a2, a3, h5.1, a5⟩, h6⟩
  · exact Gets.bind (spec_l4Raw_is h4) fun r3 ⟨h5, h6⟩ => Gets.pure ⟨⟨a1, a2, a3, a4, h5⟩, h6⟩
theorem spec_l25List_is {c : l1Cur} (h : curOk c) : Gets (fun r => few 8 r.1 ∧ curOk r.2) (spec_l25List c) := by
  refine Gets.bind (spec_l1Below_is h (n := 4) (by omega)) fun r ⟨h1, h2⟩ => ?_
  refine Gets.fill (K := curOk) (m := 8) (by omega) (fun xs n c hc h0 h9 hx => ?_) (fun xs n c hn => ?_) h1.1 (by omega) h2
  · refine Gets.cond (fun _ => ?_) fun hf => ?_
    · exact Gets.bind (spec_l25Any_is hc) fun r2 ⟨h3, h4⟩ => Gets.ite (fitsN (by have := hx.1; simp; omega) (by omega)) (Gets.pure ⟨_, _, rfl, h3, h4⟩)
    · simp only [gt_d, decide_eq_false_iff_not] at hf; omega
  · simp only [gt_d, cond_dec]; rw [if_neg (by omega)]
theorem spec_DrawVisibleAt_is {x : List Int} (h : x.length ≤ 1048576) : Gets (fun r => ok r.1 ∧ ok r.2.1 ∧ 0 ≤ r.2.2 ∧ r.2.2 < 24) (spec_DrawVisibleAt x) :=
  Gets.bind (spec_l1New_is h) fun r h1 => Gets.bind (spec_l15Any_is h1) fun r2 ⟨h2, h3⟩ => Gets.bind (spec_l25List_is h3) fun r3 ⟨h4, h5⟩ => Gets.bind (spec_l1Below_is h5 (by omega)) fun r4 ⟨h6, h7⟩ =>
    Gets.pure ⟨h2.ok (by omega), h4.ok (by omega), h6⟩
end D
end Go.Sh
set_option linter.unusedVariables false
set_option linter.unusedSimpArgs false
set_option synthInstance.maxSize 100000
set_option maxHeartbeats 2000000
namespace Go.Sh
open Go Data
namespace D
theorem hides_since {x : Exclusion} {c : Capture} (h : hidesP x c = true) : 0 ≤ x.2.2.2.2 := by
  unfold hidesP at h
  simp only [Bool.and_eq_true, decide_eq_true_eq] at h
  have := h.1.1.1
  unfold exclP at this; omega
theorem firstStep_iff (c : Capture) (x : Exclusion) (now f0 : Int) : (0 ≤ firstStep c f0 x ∧ firstStep c f0 x ≤ now) ↔ ((0 ≤ f0 ∧ f0 ≤ now) ∨ hiddenByP x c now = true) := by
  unfold firstStep hiddenByP
  cases h : hidesP x c with
  | false => simp
  | true =>
    have hs := hides_since h
    simp only [true_and, Bool.and_true, decide_eq_true_eq]
    split <;> omega
theorem first_fold (c : Capture) (now : Int) : ∀ (ex : List Exclusion) (f0 : Int), (0 ≤ ex.foldl (firstStep c) f0 ∧ ex.foldl (firstStep c) f0 ≤ now) ↔ ((0 ≤ f0 ∧ f0 ≤ now) ∨ (ex.any fun x => hiddenByP x c now) = true)
  | [], f0 => by simp
  | x :: ex, f0 => by
    rw [List.foldl_cons, first_fold c now ex, firstStep_iff, List.any_cons, Bool.or_eq_true, or_assoc]
theorem first_iff (c : Capture) (now : Int) (ex : List Exclusion) : (0 ≤ firstHiddenP c ex ∧ firstHiddenP c ex ≤ now) ↔ (ex.any fun x => hiddenByP x c now) = true := by
  unfold firstHiddenP; rw [first_fold]
  constructor
  · rintro (h | h)
    · omega
    · exact h
  · exact .inr
theorem vis_filter (l : List Capture) (ex : List Exclusion) (now : Int) : visP l ex now = l.filter fun c => !(ex.any fun x => hiddenByP x c now) := by
  unfold visP
  induction l with
  | nil => rfl
  | cons c l ih => rw [List.flatMap_cons, ih, List.filter_cons]; cases (ex.any fun x => hiddenByP x c now) <;> rfl
theorem vis_vis (l : List Capture) (ex : List Exclusion) (now : Int) : visP (visP l ex now) ex now = visP l ex now := by
  rw [vis_filter, vis_filter, List.filter_filter]; simp
theorem vis_later (l : List Capture) (ex : List Exclusion) (now : Int) : (visP l ex (now + 1)).length ≤ (visP l ex now).length := by
  rw [vis_filter, vis_filter, ← List.countP_eq_length_filter, ← List.countP_eq_length_filter]
  refine List.countP_mono_left fun c _ h => ?_
  simp only [Bool.not_eq_true', List.any_eq_false] at h ⊢
  intro x hx
  have := h x hx
  unfold hiddenByP at this ⊢
  simp only [Bool.and_eq_true, decide_eq_true_eq, not_and] at this ⊢
  exact fun h1 => this (by omega)

/-- the law, once the captures are drawn -/
theorem excluded_loop {l : List Capture} {ex : List Exclusion} {now : Int} (hl : ok l) (hx : ok ex) (h0 : 0 ≤ now) (h24 : now < 24) {step : Int × Int → Option ((Int × Int) ⊕ Bool)}
    (hstep : ∀ k (hk : k < l.length), step (((visP (l.take k) ex now).length : Int), (k : Int)) = some (.inl (((visP (l.take (k + 1)) ex now).length : Int), ((k + 1 : Nat) : Int))))
    (hend : step (((visP l ex now).length : Int), (l.length : Int)) = some (.inr true)) : loopF step (0, 0) = some true := by
  have := loop_upto (step := step) (r := true) l.length (fun k (a : Int) => (a, (k : Int))) (fun k => ((visP (l.take k) ex now).length : Int)) (fun k hk => hstep k hk) (by rw [List.take_length]; exact hend)
  simpa [visP] using this

theorem FnExcluded_true (x : List Int) (hx : bd x) : laws_FnExcluded x = some true := by
  unfold laws_FnExcluded
  simp only [laws_big, bind_some', gt_d, len_d, cond_dec]
  by_cases hb : 1048576 < (x.length : Int)
  · rw [if_pos hb]
  rw [if_neg hb]
  obtain ⟨⟨l, ex, now⟩, e, hl, hex, h0, h24⟩ := spec_DrawVisibleAt_is (x := x) (by omega)
  simp only at hl hex h0 h24
  rw [e, bind_some']
  simp only
  have hv := vis_ok hl ex now
  have hll := hl.1; have hxl := hex.1; have hvl := hv.1
  rw [impl_VisibleAt_is hl hex, bind_some']
  refine excluded_loop hl hex h0 h24 (fun k hk => ?_) ?_
  · have k0 : (0 : Int) ≤ (k : Int) := by omega
    have k1 : (k : Int) < (l.length : Int) := by omega
    simp only [lt_d (k : Int), len_d, cond_dec, k1, if_true]
    refine (loop_upto (r := Sum.inl (((visP (l.take (k + 1)) ex now).length : Int), ((k + 1 : Nat) : Int))) ex.length (fun j (b : Bool) => (b, (j : Int))) (fun j => (ex.take j).any fun x => hiddenByP x l[k] now) (fun j hj => ?_) ?_)
    · have j0 : (0 : Int) ≤ (j : Int) := by omega
      have j1 : (j : Int) < (ex.length : Int) := by omega
      have e1 : (ex.take (j + 1)).any (fun x => hiddenByP x l[k] now) = ((ex.take j).any (fun x => hiddenByP x l[k] now) || hiddenByP ex[j] l[k] now) := by
        rw [List.take_succ_eq_append_getElem hj, List.any_append]; simp
      simp only [ite_if, lt_d, cond_dec, j0, j1, k0, k1, if_true, rd_at l k hk, rd_at ex j hj, impl_IsHiddenBy_is, bind_some', next_id hj (by omega), e1, cond_if]
      cases (ex.take j).any (fun x => hiddenByP x l[k] now) <;> simp
    · have hf := first_iff l[k] now ex
      have hne : ¬ ((ex.length : Int) < (ex.length : Int)) := by omega
      have hs : visP (l.take (k + 1)) ex now = visP (l.take k) ex now ++ visP [l[k]] ex now := by
        unfold visP; rw [List.take_succ_eq_append_getElem hk, List.flatMap_append]
      have hd : visP l ex now = visP (l.take k) ex now ++ (visP [l[k]] ex now ++ visP (l.drop (k + 1)) ex now) := by
        unfold visP; rw [← List.flatMap_append, ← List.flatMap_append]; congr 1
        rw [List.singleton_append, ← List.drop_eq_getElem_cons hk, List.take_append_drop]
      simp only [ite_if, lt_d, cond_dec, hne, if_false, k0, k1, if_true, rd_at l k hk, impl_FirstHidden_is (l := ex) (c := l[k]) (by omega), bind_some', next_id hk (by omega), List.take_length, hs, List.length_append]
      cases hany : ex.any (fun x => hiddenByP x l[k] now) with
      | true =>
        rw [hany] at hf
        obtain ⟨f0, f1⟩ := hf.2 rfl
        have hz : visP [l[k]] ex now = [] := by unfold visP; simp [hany]
        simp only [ge_d, le_d, cond_dec, f0, f1, if_true, neB_d, decide_true, not_true_eq_false, if_false, not_b, Bool.not_true, cond_if, hz, List.length_nil, Nat.add_zero, Bool.false_eq_true]
        rfl
      | false =>
        rw [hany] at hf
        have hf' : ¬ (0 ≤ firstHiddenP l[k] ex ∧ firstHiddenP l[k] ex ≤ now) := fun h => by have := hf.1 h; cases this
        have hz : visP [l[k]] ex now = [l[k]] := by unfold visP; simp [hany]
        rw [hz] at hd
        have n1 : (visP (l.take k) ex now).length < (visP l ex now).length := by rw [hd]; simp
        have hat : (visP l ex now)[(visP (l.take k) ex now).length]'n1 = l[k] := by
          simp only [hd]; rw [List.getElem_append_right (Nat.le_refl _)]; simp
        generalize hn : (visP (l.take k) ex now).length = n at *
        have m0 : (0 : Int) ≤ (n : Int) := by omega
        have m1 : (n : Int) ≤ ((n + 1 : Nat) : Int) := by omega
        have m2 : ((n + 1 : Nat) : Int) ≤ ((visP l ex now).length : Int) := by omega
        have m3 : ¬ (((visP l ex now).length : Int) ≤ (n : Int)) := by omega
        have m4 : (k : Int) ≤ ((k + 1 : Nat) : Int) := by omega
        have m5 : ((k + 1 : Nat) : Int) ≤ (l.length : Int) := by omega
        have hc : ok [l[k]] := ⟨by simp, fun y hy => by simp only [List.mem_singleton] at hy; subst hy; exact hl.at hk⟩
        have hg : ∀ f : Int, f = firstHiddenP l[k] ex → ¬ (0 ≤ f ∧ f ≤ now) := fun f h => by rw [h]; exact hf'
        generalize firstHiddenP l[k] ex = f at *
        by_cases f0 : 0 ≤ f
        · have f1 : ¬ f ≤ now := fun h => hf' ⟨f0, h⟩
          simp only [ge_d, le_d, cond_dec, f0, f1, if_true, neB_d, decide_false, not_true_eq_false, if_false, not_b, Bool.not_false, cond_if, hz, List.length_singleton, next_id n1 (by omega), m0, m1, m2, m3, m4, m5, cut_one _ _ hk, cut_one _ _ n1, hat, impl_EqualCaptures_is hc, bind_some', decide_true, Bool.not_true, Bool.false_eq_true]
          rfl
        · simp only [ge_d, le_d, cond_dec, f0, if_true, neB_d, decide_false, not_true_eq_false, if_false, not_b, Bool.not_false, cond_if, hz, List.length_singleton, next_id n1 (by omega), m0, m1, m2, m3, m4, m5, cut_one _ _ hk, cut_one _ _ n1, hat, impl_EqualCaptures_is hc, bind_some', decide_true, Bool.not_true, Bool.false_eq_true]
          rfl
  · have hne : ¬ ((l.length : Int) < (l.length : Int)) := by omega
    have l1 := vis_len l ex now; have l2 := vis_len l ex (now + 1); have l3 := vis_later l ex now
    have a1 : N.add .i64 now 1 = now + 1 := add_id (by omega) (by omega)
    have a2 : N.sub .i64 (l.length : Int) ((visP l ex now).length : Int) = (l.length : Int) - ((visP l ex now).length : Int) := sub_id (by omega) (by omega)
    have a3 : hiddenCountP (visP l ex now) ex now = 0 := by unfold hiddenCountP; rw [vis_vis]; omega
    have a4 : hiddenCountP l ex now ≤ hiddenCountP l ex (now + 1) := by unfold hiddenCountP; omega
    simp only [lt_d, len_d, cond_dec, hne, if_false, eq_d, le_d, if_true, impl_HiddenCount_is hl hex, impl_HiddenCount_is hv hex, bind_some', a1, a2, a3, a4, show hiddenCountP l ex now = (l.length : Int) - ((visP l ex now).length : Int) from rfl, decide_true]
    rw [show hiddenCountP l ex now = (l.length : Int) - ((visP l ex now).length : Int) from rfl] at a4
    simp [a4]
end D
end Go.Sh
