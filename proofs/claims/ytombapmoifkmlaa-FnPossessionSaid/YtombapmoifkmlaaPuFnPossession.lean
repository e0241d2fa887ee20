/- The native forms of the functions that FnPossession reaches, and their pure laws: FnPossession is true for every input of bounded parts. No condition beyond the bounds that every input keeps. -/
import Derived.Test.YtombapmoifkmlaaSh8
set_option linter.unusedVariables false
set_option maxRecDepth 100000
set_option maxHeartbeats 4000000
namespace Go.Sh
open Go
namespace N
def nostr : ByteArray := ByteArray.empty
def lit (l : List UInt8) : ByteArray := ⟨l.toArray⟩
def let_ {α R : Type} (x : α) (f : α → Option R) : Option R := f x
end N
namespace D
abbrev Address : Type := Int × Int × Int
abbrev Resource : Type := Int × (List Int) × Address
abbrev l1Cur : Type := (List Int) × Int × Int
noncomputable def spec_l1In (x0 : Int) (x1 : Int) (x2 : Int) : Option (Bool) :=
  N.cond (N.ge x0 x1)
    (some (N.le x0 x2))
    (some false)

noncomputable def impl_InRange (x0 : Int) (x1 : Int) (x2 : Int) : Option (Bool) :=
  N.cond (N.le x1 x0)
    (some (N.le x0 x2))
    (some false)

noncomputable def spec_ResourceInts (x0 : Resource) : Option (List Int) :=
  N.ite (N.fits [x0.1, x0.2.2.1, x0.2.2.2.1, x0.2.2.2.2, N.len x0.2.1] x0.2.1 8)
    (some (N.app [x0.1, x0.2.2.1, x0.2.2.2.1, x0.2.2.2.2, N.len x0.2.1] x0.2.1))
    none

noncomputable def impl_ResourceInts (x0 : Resource) : Option (List Int) :=
  N.ite (N.fits [x0.1, x0.2.2.1, x0.2.2.2.1, x0.2.2.2.2, N.len x0.2.1] x0.2.1 8)
    (some (N.app [x0.1, x0.2.2.1, x0.2.2.2.1, x0.2.2.2.2, N.len x0.2.1] x0.2.1))
    none

noncomputable def spec_Mod (x0 : Int) (x1 : Int) : Option (Int) :=
  N.bind (spec_l1In x1 1 1000000000000) fun r1 =>
    N.cond (N.not r1)
      (some 0)
      (
        N.ite (x1 = 0)
          none
          (
            N.ite (x1 = 0)
              none
              (some (N.rem (N.add .i64 (N.rem x0 x1) x1) x1))))

noncomputable def spec_Hash (x0 : List Int) : Option (Int) :=
  loopF (fun (s1 : Int × Int) =>
      N.cond (N.lt s1.2 (N.len x0))
        (
          N.ite (0 ≤ s1.2)
            (
              N.ite (s1.2 < N.len x0)
                (
                  N.bind (spec_Mod (N.rd x0 s1.2 0) 2147483647) fun r1 =>
                    some (.inl (N.rem (N.add .i64 (N.add .i64 (N.mul .i64 s1.1 1000003) r1) 13) 2147483647, N.add .i64 s1.2 1)))
                none)
            none)
        (some (.inr s1.1)))
    (11, 0)

noncomputable def impl_Mod (x0 : Int) (x1 : Int) : Option (Int) :=
  N.bind (impl_InRange x1 1 1000000000000) fun r1 =>
    N.cond (N.not r1)
      (some 0)
      (
        N.ite (x1 = 0)
          none
          (
            N.ite (x1 = 0)
              none
              (some (N.rem (N.add .i64 (N.rem x0 x1) x1) x1))))

noncomputable def impl_Hash (x0 : List Int) : Option (Int) :=
  loopF (fun (s1 : Int × Int) =>
      N.cond (N.lt s1.2 (N.len x0))
        (
          N.ite (0 ≤ s1.2)
            (
              N.ite (s1.2 < N.len x0)
                (
                  N.bind (impl_Mod (N.rd x0 s1.2 0) 2147483647) fun r1 =>
                    some (.inl (N.rem (N.add .i64 (N.add .i64 (N.mul .i64 s1.1 1000003) r1) 13) 2147483647, N.add .i64 s1.2 1)))
                none)
            none)
        (some (.inr s1.1)))
    (11, 0)

noncomputable def laws_big (x0 : List Int) : Option (Bool) :=
  some (N.gt (N.len x0) 1048576)

noncomputable def spec_l1New (x0 : List Int) : Option (l1Cur) :=
  loopF (fun (s1 : Int × Int) =>
      N.cond (N.lt s1.2 (N.len x0))
        (
          N.cond (N.lt s1.2 4000)
            (
              N.ite (0 ≤ s1.2)
                (
                  N.ite (s1.2 < N.len x0)
                    (some (.inl (N.and .i64 (N.add .i64 (N.add .i64 (N.mul .i64 s1.1 137) (N.conv .i64 (N.rd x0 s1.2 0))) 11) 1073741823, N.add .i64 s1.2 1)))
                    none)
                none)
            (some (.inr (x0, 0, s1.1))))
        (some (.inr (x0, 0, s1.1))))
    (N.add .i64 193017 (N.len x0), 0)

noncomputable def spec_l1Byte (x0 : l1Cur) : Option (Int × l1Cur) :=
  N.cond (N.lt x0.2.1 (N.len x0.1))
    (
      N.ite (0 ≤ x0.2.1)
        (
          N.ite (x0.2.1 < N.len x0.1)
            (some (N.and .i64 (N.add .i64 (N.and .i64 (N.xor .i64 (N.shr .i64 (N.add .i64 (N.mul .i64 x0.2.2 6364136223846793005) 1442695040888963407) 33) (N.shr .i64 (N.add .i64 (N.mul .i64 x0.2.2 6364136223846793005) 1442695040888963407) 47)) 255) (N.conv .i64 (N.rd x0.1 x0.2.1 0))) 255, (x0.1, N.add .i64 x0.2.1 1, N.add .i64 (N.mul .i64 x0.2.2 6364136223846793005) 1442695040888963407)))
            none)
        none)
    (some (N.and .i64 (N.xor .i64 (N.shr .i64 (N.add .i64 (N.mul .i64 x0.2.2 6364136223846793005) 1442695040888963407) 33) (N.shr .i64 (N.add .i64 (N.mul .i64 x0.2.2 6364136223846793005) 1442695040888963407) 47)) 255, (x0.1, x0.2.1, N.add .i64 (N.mul .i64 x0.2.2 6364136223846793005) 1442695040888963407)))

noncomputable def spec_l1Below (x0 : l1Cur) (x1 : Int) : Option (Int × l1Cur) :=
  N.cond (N.le x1 0)
    (some (0, x0))
    (
      N.cond (N.le x1 256)
        (
          N.bind (spec_l1Byte x0) fun r1 =>
            N.ite (x1 = 0)
              none
              (some (N.rem r1.1 x1, r1.2)))
        (
          N.bind (spec_l1Byte x0) fun r2 =>
            N.bind (spec_l1Byte r2.2) fun r3 =>
              N.bind (spec_l1Byte r3.2) fun r4 =>
                N.ite (x1 = 0)
                  none
                  (some (N.rem (N.add .i64 (N.add .i64 (N.mul .i64 r2.1 65536) (N.mul .i64 r3.1 256)) r4.1) x1, r4.2))))

noncomputable def spec_l4Draw (x0 : l1Cur) : Option (Address × l1Cur) :=
  N.bind (spec_l1Below x0 3) fun r1 =>
    N.bind (spec_l1Below r1.2 3) fun r2 =>
      N.bind (spec_l1Below r2.2 3) fun r3 =>
        some ((N.add .i64 1 r1.1, r2.1, r3.1), r3.2)

noncomputable def spec_l5Body (x0 : l1Cur) : Option ((List Int) × l1Cur) :=
  N.bind (spec_l1Below x0 5) fun r1 =>
    loopF (fun (s1 : List Int × Int × (List Int × Int × Int)) =>
        N.cond (N.gt s1.2.1 0)
          (
            N.bind (spec_l1Below s1.2.2 9) fun r2 =>
              N.ite (N.fits s1.1 [r2.1] 8)
                (some (.inl (N.app s1.1 [r2.1], N.sub .i64 s1.2.1 1, r2.2)))
                none)
          (some (.inr (s1.1, s1.2.2))))
      ([], r1.1, r1.2)

noncomputable def spec_l5Draw (x0 : l1Cur) : Option (Int × (List Int) × Int × Int × Int × l1Cur) :=
  N.bind (spec_l1Below x0 6) fun r1 =>
    N.cond (N.eq r1.1 0)
      (
        N.bind (spec_l4Draw r1.2) fun r2 =>
          some (3, [], r2.1.1, r2.1.2.1, r2.1.2.2, r2.2))
      (
        N.cond (N.eq r1.1 1)
          (some (4, [], 0, 0, 0, r1.2))
          (
            N.bind (spec_l1Below r1.2 2) fun r3 =>
              N.bind (spec_l5Body r3.2) fun r4 =>
                some (N.add .i64 1 r3.1, r4.1, 0, 0, 0, r4.2)))

noncomputable def spec_l1Once (x0 : l1Cur) (x1 : Int) : Option (Bool × l1Cur) :=
  N.bind (spec_l1Below x0 x1) fun r1 =>
    some (N.eq r1.1 0, r1.2)

noncomputable def spec_l1Int (x0 : l1Cur) (x1 : List Int) : Option (Int × l1Cur) :=
  N.bind (spec_l1Below x0 (N.len x1)) fun r1 =>
    N.ite (0 ≤ r1.1)
      (
        N.ite (r1.1 < N.len x1)
          (some (N.rd x1 r1.1 0, r1.2))
          none)
      none

noncomputable def spec_l4Raw (x0 : l1Cur) : Option (Int × l1Cur) :=
  N.bind (spec_l1Int x0 [(-1), 0, 9, 10, 99, 100, 9223372036854775807, (-9223372036854775808)]) fun r1 =>
    some r1

noncomputable def spec_IsValidKey (x0 : Int) : Option (Bool) :=
  N.bind (spec_l1In x0 1 2147483646) fun r1 =>
    some r1

noncomputable def spec_KeyedHash (x0 : Int) (x1 : List Int) : Option (Int) :=
  N.ite (N.fits [x0] x1 8)
    (
      N.ite (N.fits (N.app [x0] x1) [x0] 8)
        (
          N.bind (spec_Hash (N.app (N.app [x0] x1) [x0])) fun r1 =>
            some r1)
        none)
    none

noncomputable def impl_IsValidKey (x0 : Int) : Option (Bool) :=
  N.bind (impl_InRange x0 1 2147483646) fun r1 =>
    some r1

noncomputable def impl_KeyedHash (x0 : Int) (x1 : List Int) : Option (Int) :=
  N.ite (N.fits [x0] x1 8)
    (
      N.ite (N.fits (N.app [x0] x1) [x0] 8)
        (
          N.bind (impl_Hash (N.app (N.app [x0] x1) [x0])) fun r1 =>
            some r1)
        none)
    none

noncomputable def spec_l4Any (x0 : l1Cur) : Option (Address × l1Cur) :=
  N.bind (spec_l4Draw x0) fun r1 =>
    N.bind (spec_l1Below r1.2 9) fun r2 =>
      N.cond (N.eq r2.1 0)
        (
          N.bind (spec_l4Raw r2.2) fun r3 =>
            some ((r3.1, r1.1.2.1, r1.1.2.2), r3.2))
        (
          N.cond (N.eq r2.1 1)
            (
              N.bind (spec_l4Raw r2.2) fun r4 =>
                some ((r1.1.1, r4.1, r1.1.2.2), r4.2))
            (
              N.cond (N.eq r2.1 2)
                (
                  N.bind (spec_l4Raw r2.2) fun r5 =>
                    some ((r1.1.1, r1.1.2.1, r5.1), r5.2))
                (some (r1.1, r2.2))))

noncomputable def spec_l5Any (x0 : l1Cur) : Option (Int × (List Int) × Int × Int × Int × l1Cur) :=
  N.bind (spec_l5Draw x0) fun r1 =>
    N.bind (spec_l1Below r1.2.2.2.2.2 9) fun r2 =>
      N.cond (N.eq r2.1 0)
        (
          N.bind (spec_l1Int r2.2 [0, 5, 3, 4]) fun r3 =>
            some (r3.1, r1.2.1, r1.2.2.1, r1.2.2.2.1, r1.2.2.2.2.1, r3.2))
        (
          N.cond (N.eq r2.1 1)
            (
              N.bind (spec_l1Int r2.2 [(-1), 255, 256]) fun r4 =>
                N.ite (N.fits r1.2.1 [r4.1] 8)
                  (some (r1.1, N.app r1.2.1 [r4.1], r1.2.2.1, r1.2.2.2.1, r1.2.2.2.2.1, r4.2))
                  none)
            (
              N.cond (N.eq r2.1 2)
                (some (r1.1, [1, 2, 3, 4, 5, 6, 7], r1.2.2.1, r1.2.2.2.1, r1.2.2.2.2.1, r2.2))
                (
                  N.cond (N.eq r2.1 3)
                    (
                      N.bind (spec_l4Any r2.2) fun r5 =>
                        some (r1.1, r1.2.1, r5.1.1, r5.1.2.1, r5.1.2.2, r5.2))
                    (some (r1.1, r1.2.1, r1.2.2.1, r1.2.2.2.1, r1.2.2.2.2.1, r2.2)))))

noncomputable def spec_DigestOf (x0 : Resource) : Option (Int) :=
  N.bind (spec_ResourceInts x0) fun r1 =>
    N.bind (spec_Hash r1) fun r2 =>
      some r2

noncomputable def spec_NonceFor (x0 : Int) (x1 : Int) (x2 : Int) : Option (Int) :=
  N.bind (spec_Hash [x0, x1, x2]) fun r1 =>
    N.bind (spec_Mod r1 100000) fun r2 =>
      some (N.add .i64 r2 1)

noncomputable def spec_AnswerWith (x0 : Resource) (x1 : Int) : Option (Int) :=
  N.bind (spec_IsValidKey x1) fun r1 =>
    N.cond (N.not r1)
      (some 0)
      (
        N.bind (spec_ResourceInts x0) fun r2 =>
          N.bind (spec_KeyedHash x1 r2) fun r3 =>
            some r3)

noncomputable def spec_DrawCheckAnswer (x0 : List Int) : Option (Int × (List Int) × Int × Int × Int × Int × Int × Int) :=
  N.bind (spec_l1New x0) fun r1 =>
    N.bind (spec_l5Any r1) fun r2 =>
      N.bind (spec_l1Below r2.2.2.2.2.2 5) fun r3 =>
        N.bind (spec_l1Below r3.2 9) fun r4 =>
          N.bind (spec_DigestOf (r2.1, r2.2.1, (r2.2.2.1, r2.2.2.2.1, r2.2.2.2.2.1))) fun r5 =>
            N.bind (spec_NonceFor r3.1 r5 r4.1) fun r6 =>
              N.bind (spec_AnswerWith (r2.1, r2.2.1, (r2.2.2.1, r2.2.2.2.1, r2.2.2.2.2.1)) r6) fun r7 =>
                N.bind (spec_l1Once r4.2 3) fun r8 =>
                  N.cond r8.1
                    (
                      N.bind (spec_l1Int r8.2 [0, N.add .i64 r7 1, 5]) fun r9 =>
                        some (r2.1, r2.2.1, r2.2.2.1, r2.2.2.2.1, r2.2.2.2.2.1, r3.1, r4.1, r9.1))
                    (some (r2.1, r2.2.1, r2.2.2.1, r2.2.2.2.1, r2.2.2.2.2.1, r3.1, r4.1, r7))

noncomputable def impl_DigestOf (x0 : Resource) : Option (Int) :=
  N.bind (impl_ResourceInts x0) fun r1 =>
    N.bind (impl_Hash r1) fun r2 =>
      some r2

noncomputable def impl_NonceFor (x0 : Int) (x1 : Int) (x2 : Int) : Option (Int) :=
  N.bind (impl_Hash [x0, x1, x2]) fun r1 =>
    N.bind (impl_Mod r1 100000) fun r2 =>
      some (N.add .i64 r2 1)

noncomputable def impl_AnswerWith (x0 : Resource) (x1 : Int) : Option (Int) :=
  N.bind (impl_IsValidKey x1) fun r1 =>
    N.cond (N.not r1)
      (some 0)
      (
        N.bind (impl_ResourceInts x0) fun r2 =>
          N.bind (impl_KeyedHash x1 r2) fun r3 =>
            some r3)

noncomputable def impl_rightAnswer (x0 : Resource) (x1 : Int) (x2 : Int) : Option (Int) :=
  N.bind (impl_DigestOf x0) fun r1 =>
    N.bind (impl_NonceFor x1 r1 x2) fun r2 =>
      N.bind (impl_AnswerWith x0 r2) fun r3 =>
        some r3

noncomputable def impl_CheckAnswer (x0 : Resource) (x1 : Int) (x2 : Int) (x3 : Int) : Option (Bool) :=
  N.cond (N.ne x3 0)
    (
      N.bind (impl_rightAnswer x0 x1 x2) fun r1 =>
        some (N.eq x3 r1))
    (some false)

noncomputable def spec_DrawServesOther (x0 : List Int) : Option (Int × (List Int) × Int × Int × Int × Int × Int × Int) :=
  N.bind (spec_DrawCheckAnswer x0) fun r1 =>
    N.bind (spec_l1New x0) fun r2 =>
      N.bind (spec_l1Below r2 5) fun r3 =>
        some (r1.1, r1.2.1, r1.2.2.1, r1.2.2.2.1, r1.2.2.2.2.1, r1.2.2.2.2.2.1, r3.1, r1.2.2.2.2.2.2.1)

noncomputable def impl_ServesOther (x0 : Resource) (x1 : Int) (x2 : Int) (x3 : Int) : Option (Bool) :=
  N.bind (impl_rightAnswer x0 x1 x3) fun r1 =>
    N.bind (impl_CheckAnswer x0 x2 x3 r1) fun r2 =>
      some r2

noncomputable def spec_DrawCountProofs (x0 : List Int) : Option (Int × (List Int) × Int × Int × Int × (List Int) × Int) :=
  N.bind (spec_DrawCheckAnswer x0) fun r1 =>
    N.bind (spec_l1New x0) fun r2 =>
      loopF (fun (s1 : List Int × Int × (List Int × Int × Int)) =>
          N.cond (N.lt s1.2.1 5)
            (
              N.bind (spec_DigestOf (r1.1, r1.2.1, (r1.2.2.1, r1.2.2.2.1, r1.2.2.2.2.1))) fun r3 =>
                N.bind (spec_NonceFor s1.2.1 r3 r1.2.2.2.2.2.2.1) fun r4 =>
                  N.bind (spec_AnswerWith (r1.1, r1.2.1, (r1.2.2.1, r1.2.2.2.1, r1.2.2.2.2.1)) r4) fun r5 =>
                    N.bind (spec_l1Once s1.2.2 3) fun r6 =>
                      N.cond r6.1
                        (
                          N.ite (N.fits s1.1 [7] 8)
                            (some (.inl (N.app s1.1 [7], N.add .i64 s1.2.1 1, r6.2)))
                            none)
                        (
                          N.ite (N.fits s1.1 [r5] 8)
                            (some (.inl (N.app s1.1 [r5], N.add .i64 s1.2.1 1, r6.2)))
                            none))
            (some (.inr (r1.1, r1.2.1, r1.2.2.1, r1.2.2.2.1, r1.2.2.2.2.1, s1.1, r1.2.2.2.2.2.2.1))))
        ([], 0, r2)

noncomputable def impl_CountProofs (x0 : Resource) (x1 : List Int) (x2 : Int) : Option (Int) :=
  loopF (fun (s1 : Int × Int) =>
      N.cond (N.lt s1.2 (N.len x1))
        (
          N.ite (0 ≤ s1.2)
            (
              N.ite (s1.2 < N.len x1)
                (
                  N.bind (impl_CheckAnswer x0 s1.2 x2 (N.rd x1 s1.2 0)) fun r1 =>
                    N.cond r1
                      (some (.inl (N.add .i64 s1.1 1, N.add .i64 s1.2 1)))
                      (some (.inl (s1.1, N.add .i64 s1.2 1))))
                none)
            none)
        (some (.inr s1.1)))
    (0, 0)

noncomputable def laws_FnPossession (x0 : List Int) : Option (Bool) :=
  N.bind (laws_big x0) fun r1 =>
    N.cond r1
      (some true)
      (
        N.bind (spec_DrawCheckAnswer x0) fun r2 =>
          N.bind (impl_DigestOf (r2.1, r2.2.1, (r2.2.2.1, r2.2.2.2.1, r2.2.2.2.2.1))) fun r3 =>
            N.bind (impl_NonceFor r2.2.2.2.2.2.1 r3 r2.2.2.2.2.2.2.1) fun r4 =>
              N.bind (impl_AnswerWith (r2.1, r2.2.1, (r2.2.2.1, r2.2.2.2.1, r2.2.2.2.2.1)) r4) fun r5 =>
                N.cond (N.eq r5 0)
                  (some false)
                  (
                    N.bind (impl_CheckAnswer (r2.1, r2.2.1, (r2.2.2.1, r2.2.2.2.1, r2.2.2.2.2.1)) r2.2.2.2.2.2.1 r2.2.2.2.2.2.2.1 r5) fun r6 =>
                      N.cond (N.not r6)
                        (some false)
                        (
                          N.bind (impl_CheckAnswer (r2.1, r2.2.1, (r2.2.2.1, r2.2.2.2.1, r2.2.2.2.2.1)) r2.2.2.2.2.2.1 r2.2.2.2.2.2.2.1 r2.2.2.2.2.2.2.2) fun r7 =>
                            N.cond (N.neB r7 (N.eq r2.2.2.2.2.2.2.2 r5))
                              (some false)
                              (
                                N.bind (spec_DrawServesOther x0) fun r8 =>
                                  N.bind (impl_ServesOther (r8.1, r8.2.1, (r8.2.2.1, r8.2.2.2.1, r8.2.2.2.2.1)) r8.2.2.2.2.2.1 r8.2.2.2.2.2.2.1 r8.2.2.2.2.2.2.2) fun r9 =>
                                    N.bind (impl_DigestOf (r8.1, r8.2.1, (r8.2.2.1, r8.2.2.2.1, r8.2.2.2.2.1))) fun r10 =>
                                      N.bind (impl_NonceFor r8.2.2.2.2.2.1 r10 r8.2.2.2.2.2.2.2) fun r11 =>
                                        N.bind (impl_DigestOf (r8.1, r8.2.1, (r8.2.2.1, r8.2.2.2.1, r8.2.2.2.2.1))) fun r12 =>
                                          N.bind (impl_NonceFor r8.2.2.2.2.2.2.1 r12 r8.2.2.2.2.2.2.2) fun r13 =>
                                            N.cond (N.neB r9 (N.eq r11 r13))
                                              (some false)
                                              (
                                                N.bind (spec_DrawCountProofs x0) fun r14 =>
                                                  loopF (fun (s1 : Int × Int) =>
                                                      N.cond (N.lt s1.2 (N.len r14.2.2.2.2.2.1))
                                                        (
                                                          N.ite (0 ≤ s1.2)
                                                            (
                                                              N.ite (s1.2 < N.len r14.2.2.2.2.2.1)
                                                                (
                                                                  N.bind (impl_CheckAnswer (r14.1, r14.2.1, (r14.2.2.1, r14.2.2.2.1, r14.2.2.2.2.1)) s1.2 r14.2.2.2.2.2.2 (N.rd r14.2.2.2.2.2.1 s1.2 0)) fun r15 =>
                                                                    N.cond r15
                                                                      (some (.inl (N.add .i64 s1.1 1, N.add .i64 s1.2 1)))
                                                                      (some (.inl (s1.1, N.add .i64 s1.2 1))))
                                                                none)
                                                            none)
                                                        (
                                                          Option.map Sum.inr
                                                            (
                                                              N.bind (impl_CountProofs (r14.1, r14.2.1, (r14.2.2.1, r14.2.2.2.1, r14.2.2.2.2.1)) r14.2.2.2.2.2.1 r14.2.2.2.2.2.2) fun r16 =>
                                                                some (N.eq s1.1 r16))))
                                                    (0, 0))))))

end D
end Go.Sh
set_option linter.unusedVariables false
set_option linter.unusedSimpArgs false
namespace Go.Sh
open Go
/-! ## Loops -/
theorem loopN_det {S R : Type} {step : S → Option (S ⊕ R)} : ∀ {n m : Nat} {s : S} {a b : R}, loopN step n s = some a → loopN step m s = some b → a = b
  | 0, _, _, _, _, h, _ => by simp [loopN] at h
  | _ + 1, 0, _, _, _, _, h => by simp [loopN] at h
  | n + 1, m + 1, s, a, b, h1, h2 => by
    simp only [loopN] at h1 h2
    split at h1
    · cases h1
    · rename_i s' hs; rw [hs] at h2; exact loopN_det h1 h2
    · rename_i r hr; rw [hr] at h2; simp at h1 h2; rw [← h1, ← h2]

theorem loopF_of {S R : Type} {step : S → Option (S ⊕ R)} {s : S} {n : Nat} {r : R} (h : loopN step n s = some r) : loopF step s = some r := by
  have hx : ∃ n r, loopN step n s = some r := ⟨n, r, h⟩
  unfold loopF
  rw [dif_pos hx]
  obtain ⟨m, hm⟩ := Classical.choose_spec hx |> fun h => (⟨_, Classical.choose_spec h⟩ : ∃ v, loopN step (Classical.choose hx) s = some v)
  have := Classical.choose_spec (Classical.choose_spec hx)
  rw [loopN_det this h]

theorem loopF_inr {S R : Type} {step : S → Option (S ⊕ R)} {s : S} {r : R} (h : step s = some (.inr r)) : loopF step s = some r :=
  loopF_of (n := 1) (by simp [loopN, h])

theorem loopF_inl {S R : Type} {step : S → Option (S ⊕ R)} {s s' : S} (h : step s = some (.inl s')) : loopF step s = loopF step s' := by
  by_cases hx : ∃ n r, loopN step n s' = some r
  · obtain ⟨n, r, hn⟩ := hx
    rw [loopF_of hn, loopF_of (n := n + 1) (r := r) (by simp [loopN, h, hn])]
  · have hy : ¬ ∃ n r, loopN step n s = some r := by
      rintro ⟨n, r, hn⟩
      cases n with
      | zero => simp [loopN] at hn
      | succ n => simp only [loopN, h] at hn; exact hx ⟨n, r, hn⟩
    unfold loopF
    rw [dif_neg hx, dif_neg hy]

/-- a loop over a list: what each round does -/
def each {α σ R : Type} (body : α → σ → Option (σ ⊕ R)) (fin : σ → Option R) : List α → σ → Option R
  | [], a => fin a
  | x :: xs, a => match body x a with
    | none => none
    | some (.inl a') => each body fin xs a'
    | some (.inr r) => some r

/-- counting up to n -/
theorem loop_upto {σ S R : Type} {step : S → Option (S ⊕ R)} (n : Nat) (emb : Nat → σ → S) (st : Nat → σ) (r : R)
    (hstep : ∀ k < n, step (emb k (st k)) = some (.inl (emb (k + 1) (st (k + 1))))) (hend : step (emb n (st n)) = some (.inr r)) : loopF step (emb 0 (st 0)) = some r := by
  have key : ∀ (m k : Nat), k + m = n → loopF step (emb k (st k)) = some r := by
    intro m
    induction m with
    | zero => intro k hk; have : k = n := by omega
              subst this; exact loopF_inr hend
    | succ m ih => intro k hk; rw [loopF_inl (hstep k (by omega))]; exact ih (k + 1) (by omega)
  exact key n 0 (by omega)

/-! ## Words -/

section
variable {R α β : Type}
@[simp] theorem bind_some' (x : β) (f : β → Option R) : N.bind (some x) f = f x := rfl

@[simp] theorem cond_true (x y : Option R) : N.cond true x y = x := rfl

@[simp] theorem cond_false (x y : Option R) : N.cond false x y = y := rfl

theorem cond_if (b : Bool) (x y : Option R) : N.cond b x y = if b = true then x else y := rfl

theorem cond_dec (p : Prop) [Decidable p] (x y : Option R) : N.cond (decide p) x y = if p then x else y := by unfold N.cond; by_cases h : p <;> simp [h]

theorem ite_if (c : Prop) [Decidable c] (x y : Option R) : N.ite c x y = if c then x else y := rfl

theorem nite_pos {c : Prop} [Decidable c] (h : c) (x y : Option R) : N.ite c x y = x := if_pos h

theorem nite_neg {c : Prop} [Decidable c] (h : ¬ c) (x y : Option R) : N.ite c x y = y := if_neg h

theorem lt_d (a b : Int) : N.lt a b = decide (a < b) := rfl

theorem le_d (a b : Int) : N.le a b = decide (a ≤ b) := rfl

theorem gt_d (a b : Int) : N.gt a b = decide (b < a) := rfl

theorem ge_d (a b : Int) : N.ge a b = decide (b ≤ a) := rfl

theorem eq_d (a b : Int) : N.eq a b = decide (a = b) := rfl

theorem ne_d (a b : Int) : N.ne a b = decide (¬ a = b) := by
  unfold N.ne; by_cases h : a = b <;> simp [h]

theorem len_d (xs : List α) : N.len xs = (xs.length : Int) := by simp [N.len]

theorem rd_at (xs : List α) (k : Nat) (hk : k < xs.length) (d : α) : N.rd xs (k : Int) d = xs[k] := by
  simp [N.rd, List.getD, hk]

theorem wrap_id {n : Int} (h1 : -9223372036854775808 ≤ n) (h2 : n < 9223372036854775808) : IntKind.i64.wrap n = n := by
  have e1 : ((2 : Int) ^ IntKind.i64.bits) = 18446744073709551616 := by decide
  have e2 : ((2 : Int) ^ (IntKind.i64.bits - 1)) = 9223372036854775808 := by decide
  have e3 : IntKind.i64.signed = true := rfl
  unfold IntKind.wrap
  rw [e1, e2, e3]
  simp only [Bool.true_and, decide_eq_true_eq]
  split <;> omega

theorem add_id {a b : Int} (h1 : -9223372036854775808 ≤ a + b) (h2 : a + b < 9223372036854775808) : N.add .i64 a b = a + b := wrap_id h1 h2

theorem sub_id {a b : Int} (h1 : -9223372036854775808 ≤ a - b) (h2 : a - b < 9223372036854775808) : N.sub .i64 a b = a - b := wrap_id h1 h2

theorem mul_id {a b : Int} (h1 : -9223372036854775808 ≤ a * b) (h2 : a * b < 9223372036854775808) : N.mul .i64 a b = a * b := wrap_id h1 h2

theorem next_id {k n : Nat} (hk : k < n) (hn : (n : Int) < 9223372036854775808) : N.add .i64 (k : Int) 1 = ((k + 1 : Nat) : Int) := by
  rw [add_id (by omega) (by omega)]; omega

end
end Go.Sh
set_option linter.unusedVariables false
set_option linter.unusedSimpArgs false
namespace Go.Sh
open Go
/-! ## Bounds of data -/
class Data (α : Type) where
  bd : α → Prop
  ok : α → Prop
  le : ∀ x, ok x → bd x

open Data
instance : Data Int := ⟨fun x => -9223372036854775808 ≤ x ∧ x < 9223372036854775808, fun x => -9223372036854775808 ≤ x ∧ x < 9223372036854775808, fun _ h => h⟩

instance : Data Bool := ⟨fun _ => True, fun _ => True, fun _ h => h⟩

instance : Data ByteArray := ⟨fun s => s.size ≤ 4611686018427387904, fun s => s.size ≤ 4611686018427387904, fun _ h => h⟩

instance {α β : Type} [Data α] [Data β] : Data (α × β) := ⟨fun x => bd x.1 ∧ bd x.2, fun x => ok x.1 ∧ ok x.2, fun x h => ⟨le _ h.1, le _ h.2⟩⟩

instance {α : Type} [Data α] : Data (List α) := ⟨fun xs => xs.length ≤ 4611686018427387904 ∧ ∀ x ∈ xs, bd x, fun xs => xs.length ≤ 1048576 ∧ ∀ x ∈ xs, ok x, fun xs h => ⟨by omega, fun x hx => le x (h.2 x hx)⟩⟩

section
variable {α : Type} [Data α]
theorem Data.ok.sub {xs ys : List α} (h : ok xs) (hs : ys.Sublist xs) : ok ys := ⟨Nat.le_trans hs.length_le h.1, fun x hx => h.2 x (hs.subset hx)⟩

end
/-! ## Words, once more -/

section
variable {R α β : Type}
theorem not_d (p : Prop) [Decidable p] : N.not (decide p) = decide (¬ p) := by unfold N.not; by_cases h : p <;> simp [h]

theorem not_b (b : Bool) : N.not b = !b := rfl

end
end Go.Sh
set_option linter.unusedVariables false
set_option linter.unusedSimpArgs false
set_option synthInstance.maxSize 100000
set_option maxHeartbeats 1000000
namespace Go.Sh
open Go Data
namespace D
end D
end Go.Sh
set_option linter.unusedVariables false
set_option linter.unusedSimpArgs false
set_option synthInstance.maxSize 100000
set_option maxHeartbeats 1000000
namespace Go.Sh
open Go Data
namespace D
theorem spec_l1In_is (a b c : Int) : spec_l1In a b c = some (decide (b ≤ a ∧ a ≤ c)) := by
  unfold spec_l1In
  simp only [ge_d, le_d, cond_dec]
  by_cases h1 : b ≤ a <;> by_cases h2 : a ≤ c <;> simp [h1, h2]

theorem impl_InRange_is (a b c : Int) : impl_InRange a b c = some (decide (b ≤ a ∧ a ≤ c)) := by
  unfold impl_InRange
  simp only [ge_d, le_d, cond_dec]
  by_cases h1 : b ≤ a <;> by_cases h2 : a ≤ c <;> simp [h1, h2]

theorem rem_pos {a b : Int} (ha : 0 ≤ a) : N.rem a b = a % b := by unfold N.rem; exact Int.tmod_eq_emod_of_nonneg ha

theorem mod_core {p q : Int} (h1 : 1 ≤ q) (h2 : q ≤ 1000000000000) : N.rem (N.add .i64 (N.rem p q) q) q = p % q := by
  have hr : -q < p.tmod q ∧ p.tmod q < q := by
    constructor
    · have := Int.lt_tmod_of_pos p (by omega : 0 < q); omega
    · exact Int.tmod_lt_of_pos p (by omega)
  have e : N.add .i64 (N.rem p q) q = p.tmod q + q := add_id (by unfold N.rem; omega) (by unfold N.rem; omega)
  rw [e, rem_pos (by omega)]
  have : p.tmod q % q = p % q := by
    have h := Int.mul_tdiv_add_tmod p q
    conv => rhs; rw [← h]
    simp [Int.add_emod]
  rw [Int.add_emod, Int.emod_self, Int.add_zero, Int.emod_emod_of_dvd _ (Int.dvd_refl q), this]

theorem spec_Mod_is {p q : Int} (h1 : 1 ≤ q) (h2 : q ≤ 1000000000000) : spec_Mod p q = some (p % q) := by
  unfold spec_Mod
  rw [spec_l1In_is, bind_some', not_d, cond_dec, if_neg (by simp; omega), nite_neg (by omega), nite_neg (by omega), mod_core h1 h2]

theorem impl_Mod_is {p q : Int} (h1 : 1 ≤ q) (h2 : q ≤ 1000000000000) : impl_Mod p q = some (p % q) := by
  unfold impl_Mod
  rw [impl_InRange_is, bind_some', not_d, cond_dec, if_neg (by simp; omega), nite_neg (by omega), nite_neg (by omega), mod_core h1 h2]

/-! ## Hash -/
def hash1 (h v : Int) : Int := (h * 1000003 + v % 2147483647 + 13) % 2147483647

def hashP (l : List Int) : Int := l.foldl hash1 11

theorem hash1_in (h v : Int) : 0 ≤ hash1 h v ∧ hash1 h v < 2147483647 := by unfold hash1; omega

theorem hash_fold : ∀ (l : List Int) (h : Int), 0 ≤ h → h < 2147483647 → 0 ≤ l.foldl hash1 h ∧ l.foldl hash1 h < 2147483647
  | [], h, h0, h1 => ⟨h0, h1⟩
  | v :: l, h, _, _ => hash_fold l (hash1 h v) (hash1_in h v).1 (hash1_in h v).2

theorem hash_step {h v : Int} (h0 : 0 ≤ h) (h1 : h < 2147483647) : N.rem (N.add .i64 (N.add .i64 (N.mul .i64 h 1000003) (v % 2147483647)) 13) 2147483647 = hash1 h v := by
  rw [mul_id (by omega) (by omega), add_id (a := h * 1000003) (b := v % 2147483647) (by omega) (by omega), add_id (by omega) (by omega), rem_pos (by omega)]; rfl

def hashBody (mod : Int → Int → Option Int) (l : List Int) (s1 : Int × Int) : Option ((Int × Int) ⊕ Int) :=
  N.cond (N.lt s1.2 (N.len l)) (N.ite (0 ≤ s1.2) (N.ite (s1.2 < N.len l) (N.bind (mod (N.rd l s1.2 0) 2147483647) fun r1 => some (.inl (N.rem (N.add .i64 (N.add .i64 (N.mul .i64 s1.1 1000003) r1) 13) 2147483647, N.add .i64 s1.2 1))) none) none) (some (.inr s1.1))

theorem hash_loop {mod : Int → Int → Option Int} (hm : ∀ v, mod v 2147483647 = some (v % 2147483647)) {l : List Int} (hl : l.length ≤ 4611686018427387904) : loopF (hashBody mod l) (11, 0) = some (hashP l) := by
  refine loop_upto l.length (fun k (h : Int) => (h, (k : Int))) (fun k => (l.take k).foldl hash1 11) (hashP l) (fun k hk => ?_) ?_
  · have hin := hash_fold (l.take k) 11 (by omega) (by omega)
    have hb : hashBody mod l ((l.take k).foldl hash1 11, (k : Int)) = some (.inl (hash1 ((l.take k).foldl hash1 11) l[k], ((k + 1 : Nat) : Int))) := by
      simp only [hashBody, ite_if]; simp only [lt_d, len_d, cond_dec]
      rw [if_pos (by omega), if_pos (by omega), if_pos (by omega), rd_at l k hk, hm, bind_some', hash_step hin.1 hin.2, next_id hk (by omega)]
    simp only [hb, List.take_succ_eq_append_getElem hk, List.foldl_append, List.foldl_cons, List.foldl_nil]
  · simp only [hashBody, lt_d, len_d, cond_dec, List.take_length]
    rw [if_neg (by omega)]; rfl

theorem spec_Hash_is {l : List Int} (hl : l.length ≤ 4611686018427387904) : spec_Hash l = some (hashP l) := hash_loop (mod := spec_Mod) (fun v => spec_Mod_is (by omega) (by omega)) hl

theorem impl_Hash_is {l : List Int} (hl : l.length ≤ 4611686018427387904) : impl_Hash l = some (hashP l) := hash_loop (mod := impl_Mod) (fun v => impl_Mod_is (by omega) (by omega)) hl

theorem fits8 {α : Type} {xs ys : List α} (h : xs.length + ys.length ≤ 17592186044416) : N.fits xs ys 8 := by unfold N.fits; omega

def keyedP (k : Int) (l : List Int) : Int := hashP (([k] ++ l) ++ [k])

theorem spec_KeyedHash_is {k : Int} {l : List Int} (hl : l.length ≤ 10000000) : spec_KeyedHash k l = some (keyedP k l) := by
  unfold spec_KeyedHash
  rw [nite_pos (fits8 (by simp; omega)), nite_pos (fits8 (by simp [N.app]; omega)), spec_Hash_is (by simp [N.app]; omega)]; rfl

theorem impl_KeyedHash_is {k : Int} {l : List Int} (hl : l.length ≤ 10000000) : impl_KeyedHash k l = some (keyedP k l) := by
  unfold impl_KeyedHash
  rw [nite_pos (fits8 (by simp; omega)), nite_pos (fits8 (by simp [N.app]; omega)), impl_Hash_is (by simp [N.app]; omega)]; rfl

def validP (k : Int) : Prop := 1 ≤ k ∧ k ≤ 2147483646

instance (k : Int) : Decidable (validP k) := inferInstanceAs (Decidable (_ ∧ _))

theorem spec_IsValidKey_is (k : Int) : spec_IsValidKey k = some (decide (validP k)) := by unfold spec_IsValidKey; rw [spec_l1In_is]; rfl

theorem impl_IsValidKey_is (k : Int) : impl_IsValidKey k = some (decide (validP k)) := by unfold impl_IsValidKey; rw [impl_InRange_is]; rfl

end D
end Go.Sh
set_option linter.unusedVariables false
set_option linter.unusedSimpArgs false
set_option synthInstance.maxSize 100000
set_option maxHeartbeats 1000000
namespace Go.Sh
open Go Data
namespace D
/-! ## Resources and answers -/
def resIntsP (r : Resource) : List Int := [r.1, r.2.2.1, r.2.2.2.1, r.2.2.2.2, (r.2.1.length : Int)] ++ r.2.1

theorem spec_ResourceInts_is {r : Resource} (h : ok r) : spec_ResourceInts r = some (resIntsP r) := by
  unfold spec_ResourceInts
  rw [nite_pos (fits8 (by have := h.2.1.1; simp; omega))]; rfl

theorem impl_ResourceInts_is {r : Resource} (h : ok r) : impl_ResourceInts r = some (resIntsP r) := by
  unfold impl_ResourceInts
  rw [nite_pos (fits8 (by have := h.2.1.1; simp; omega))]; rfl

theorem resInts_len {r : Resource} (h : ok r) : (resIntsP r).length ≤ 1048581 := by have := h.2.1.1; simp [resIntsP]; omega

def digestP (r : Resource) : Int := hashP (resIntsP r)

theorem spec_DigestOf_is {r : Resource} (h : ok r) : spec_DigestOf r = some (digestP r) := by
  unfold spec_DigestOf
  rw [spec_ResourceInts_is h, bind_some', spec_Hash_is (by have := resInts_len h; omega)]; rfl

theorem impl_DigestOf_is {r : Resource} (h : ok r) : impl_DigestOf r = some (digestP r) := by
  unfold impl_DigestOf
  rw [impl_ResourceInts_is h, bind_some', impl_Hash_is (by have := resInts_len h; omega)]; rfl

def nonceP (a b c : Int) : Int := hashP [a, b, c] % 100000 + 1

theorem spec_NonceFor_is (a b c : Int) : spec_NonceFor a b c = some (nonceP a b c) := by
  unfold spec_NonceFor nonceP
  rw [spec_Hash_is (by simp), bind_some', spec_Mod_is (by omega) (by omega), bind_some', add_id (by omega) (by omega)]

theorem impl_NonceFor_is (a b c : Int) : impl_NonceFor a b c = some (nonceP a b c) := by
  unfold impl_NonceFor nonceP
  rw [impl_Hash_is (by simp), bind_some', impl_Mod_is (by omega) (by omega), bind_some', add_id (by omega) (by omega)]

def answerP (r : Resource) (n : Int) : Int := if validP n then keyedP n (resIntsP r) else 0

theorem spec_AnswerWith_is {r : Resource} (h : ok r) (n : Int) : spec_AnswerWith r n = some (answerP r n) := by
  unfold spec_AnswerWith answerP
  rw [spec_IsValidKey_is, bind_some', not_d, cond_dec, spec_ResourceInts_is h, bind_some', spec_KeyedHash_is (by have := resInts_len h; omega), bind_some']
  by_cases hv : validP n <;> simp [hv]

theorem impl_AnswerWith_is {r : Resource} (h : ok r) (n : Int) : impl_AnswerWith r n = some (answerP r n) := by
  unfold impl_AnswerWith answerP
  rw [impl_IsValidKey_is, bind_some', not_d, cond_dec, impl_ResourceInts_is h, bind_some', impl_KeyedHash_is (by have := resInts_len h; omega), bind_some']
  by_cases hv : validP n <;> simp [hv]

def rightP (r : Resource) (lib tick : Int) : Int := answerP r (nonceP lib (digestP r) tick)

theorem impl_rightAnswer_is {r : Resource} (h : ok r) (a b : Int) : impl_rightAnswer r a b = some (rightP r a b) := by
  unfold impl_rightAnswer
  rw [impl_DigestOf_is h, bind_some', impl_NonceFor_is, bind_some', impl_AnswerWith_is h]; rfl

def checkP (r : Resource) (lib tick a : Int) : Bool := decide (¬ a = 0 ∧ a = rightP r lib tick)

theorem impl_CheckAnswer_is {r : Resource} (h : ok r) (a b c : Int) : impl_CheckAnswer r a b c = some (checkP r a b c) := by
  unfold impl_CheckAnswer checkP
  rw [impl_rightAnswer_is h, bind_some', ne_d, cond_dec, eq_d]
  by_cases h1 : c = 0 <;> simp [h1]

theorem impl_ServesOther_is {r : Resource} (h : ok r) (a b c : Int) : impl_ServesOther r a b c = some (checkP r b c (rightP r a c)) := by
  unfold impl_ServesOther
  rw [impl_rightAnswer_is h, bind_some', impl_CheckAnswer_is h]; rfl

/-! ## Counts -/

/-- how many of a list, by place -/
def countAt {α : Type} (p : Nat → α → Bool) : List α → Nat → Int
  | [], _ => 0
  | x :: xs, k => (if p k x = true then 1 else 0) + countAt p xs (k + 1)

theorem countAt_le {α : Type} {p : Nat → α → Bool} : ∀ (xs : List α) (k : Nat), 0 ≤ countAt p xs k ∧ countAt p xs k ≤ xs.length
  | [], _ => by simp [countAt]
  | x :: xs, k => by have := countAt_le (p := p) xs (k + 1); simp only [countAt, List.length_cons]; split <;> omega

theorem countAt_append {α : Type} {p : Nat → α → Bool} : ∀ (xs ys : List α) (k : Nat), countAt p (xs ++ ys) k = countAt p xs k + countAt p ys (k + xs.length)
  | [], ys, k => by simp [countAt]
  | x :: xs, ys, k => by simp only [List.cons_append, countAt, countAt_append xs ys (k + 1), List.length_cons]; rw [show k + 1 + xs.length = k + (xs.length + 1) by omega]; omega

theorem loop_count {α : Type} {step : Int × Int → Option ((Int × Int) ⊕ Int)} (xs : List α) (p : Nat → α → Bool) (hl : xs.length ≤ 4611686018427387904)
    (hstep : ∀ (k : Nat) (hk : k < xs.length) (c : Int), step (c, (k : Int)) = some (.inl (if p k xs[k] = true then N.add .i64 c 1 else c, N.add .i64 (k : Int) 1)))
    (hend : ∀ c, step (c, (xs.length : Int)) = some (.inr c)) : loopF step (0, 0) = some (countAt p xs 0) := by
  refine loop_upto (r := countAt p xs 0) xs.length (fun k (c : Int) => (c, (k : Int))) (fun k => countAt p (xs.take k) 0) (fun k hk => ?_) ?_
  · rw [hstep k hk, next_id hk (by omega)]
    congr 3
    rw [List.take_succ_eq_append_getElem hk, countAt_append, List.length_take, Nat.min_eq_left (by omega)]
    have := countAt_le (p := p) (xs.take k) 0
    simp only [List.length_take] at this
    simp only [countAt, Nat.zero_add]
    split
    · rw [add_id (by omega) (by omega)]; omega
    · omega
  · rw [hend, List.take_length]

theorem impl_CountProofs_is {r : Resource} {l : List Int} (hr : ok r) (h : l.length ≤ 4611686018427387904) (t : Int) : impl_CountProofs r l t = some (countAt (fun k a => checkP r k t a) l 0) := by
  refine loop_count l _ h (fun k hk c => ?_) fun c => ?_
  · have h0 : (0 : Int) ≤ (k : Int) := by omega
    have h1 : (k : Int) < (l.length : Int) := by omega
    simp only [ite_if]; simp only [lt_d, len_d, cond_dec, h0, h1, if_true, rd_at l k hk, impl_CheckAnswer_is hr, bind_some']; simp only [cond_if]
    split <;> rfl
  · simp only [lt_d, len_d, cond_dec]; rw [if_neg (by omega)]

end D
end Go.Sh
set_option linter.unusedVariables false
set_option linter.unusedSimpArgs false
set_option synthInstance.maxSize 100000
set_option maxHeartbeats 1000000
namespace Go.Sh
open Go Data
theorem fitsN {α : Type} {xs ys : List α} {b : Nat} (h : xs.length + ys.length ≤ 100000000) (hb : b ≤ 1000000) : N.fits xs ys b := by
  unfold N.fits
  exact Nat.le_trans (Nat.mul_le_mul h hb) (by decide)

namespace D
end D
end Go.Sh
set_option linter.unusedVariables false
set_option linter.unusedSimpArgs false
set_option synthInstance.maxSize 100000
set_option maxHeartbeats 1000000
namespace Go.Sh
open Go Data
namespace D
end D
end Go.Sh
set_option linter.unusedVariables false
set_option linter.unusedSimpArgs false
set_option synthInstance.maxSize 100000
set_option maxHeartbeats 1000000
namespace Go.Sh
open Go Data
namespace D
end D
end Go.Sh
set_option linter.unusedVariables false
set_option linter.unusedSimpArgs false
set_option synthInstance.maxSize 100000
set_option maxHeartbeats 1000000
namespace Go.Sh
open Go Data
namespace D
end D
end Go.Sh
set_option linter.unusedVariables false
set_option linter.unusedSimpArgs false
set_option synthInstance.maxSize 100000
set_option maxHeartbeats 1000000
namespace Go.Sh
open Go Data
namespace D
end D
end Go.Sh
set_option linter.unusedVariables false
set_option linter.unusedSimpArgs false
set_option synthInstance.maxSize 100000
set_option maxHeartbeats 1000000
namespace Go.Sh
open Go Data
namespace D
end D
end Go.Sh
set_option linter.unusedVariables false
set_option linter.unusedSimpArgs false
set_option synthInstance.maxSize 100000
set_option maxHeartbeats 1000000
namespace Go.Sh
open Go Data
namespace D
end D
end Go.Sh
set_option linter.unusedVariables false
set_option linter.unusedSimpArgs false
set_option synthInstance.maxSize 100000
set_option maxHeartbeats 1000000
namespace Go.Sh
open Go Data
namespace D
end D
end Go.Sh
set_option linter.unusedVariables false
set_option linter.unusedSimpArgs false
set_option synthInstance.maxSize 100000
set_option maxHeartbeats 1000000
namespace Go.Sh
open Go Data
/-! ## What is drawn: it comes back, and keeps its bounds -/
def Gets {α : Type} (P : α → Prop) (r : Option α) : Prop := ∃ x, r = some x ∧ P x

section
variable {α β S R : Type} {P : α → Prop} {Q : R → Prop}
theorem Gets.pure {x : R} (h : Q x) : Gets Q (some x) := ⟨x, rfl, h⟩

theorem Gets.bind {x : Option α} {f : α → Option R} (h : Gets P x) (hf : ∀ a, P a → Gets Q (f a)) : Gets Q (N.bind x f) := by
  obtain ⟨a, rfl, ha⟩ := h; exact hf a ha

theorem Gets.cond {b : Bool} {x y : Option R} (h1 : b = true → Gets Q x) (h2 : b = false → Gets Q y) : Gets Q (N.cond b x y) := by
  unfold N.cond; cases b
  · exact h2 rfl
  · exact h1 rfl

theorem Gets.ite {c : Prop} [Decidable c] {x y : Option R} (hc : c) (h : Gets Q x) : Gets Q (N.ite c x y) := by rw [nite_pos hc]; exact h

theorem Gets.nite {c : Prop} [Decidable c] {x y : Option R} (hc : ¬ c) (h : Gets Q y) : Gets Q (N.ite c x y) := by rw [nite_neg hc]; exact h

theorem Gets.mono {Q' : R → Prop} {x : Option R} (h : Gets Q x) (hq : ∀ a, Q a → Q' a) : Gets Q' x := by
  obtain ⟨a, e, ha⟩ := h; exact ⟨a, e, hq a ha⟩

theorem Gets.loop {step : S → Option (S ⊕ R)} (I : S → Prop) (m : S → Nat)
    (hs : ∀ s, I s → Gets (fun r => match r with | .inl s' => I s' ∧ m s' < m s | .inr r => Q r) (step s)) (s : S) (h : I s) : Gets Q (loopF step s) := by
  generalize hn : m s = n
  induction n using Nat.strongRecOn generalizing s with
  | ind n ih =>
    obtain ⟨r, e, hr⟩ := hs s h
    cases r with
    | inl s' => rw [loopF_inl e]; exact ih (m s') (by rw [← hn]; exact hr.2) s' hr.1 rfl
    | inr r => exact ⟨r, loopF_inr e, hr⟩

end
theorem wrap_in (n : Int) : -9223372036854775808 ≤ IntKind.i64.wrap n ∧ IntKind.i64.wrap n < 9223372036854775808 := by
  have e1 : ((2 : Int) ^ IntKind.i64.bits) = 18446744073709551616 := by decide
  have e2 : ((2 : Int) ^ (IntKind.i64.bits - 1)) = 9223372036854775808 := by decide
  have e3 : IntKind.i64.signed = true := rfl
  unfold IntKind.wrap
  rw [e1, e2, e3]
  simp only [Bool.true_and, decide_eq_true_eq]
  split <;> omega

theorem ok_add (a b : Int) : ok (N.add .i64 a b) := wrap_in _

theorem ok_num {x : Int} (h1 : -9223372036854775808 ≤ x) (h2 : x < 9223372036854775808) : ok x := ⟨h1, h2⟩

theorem ok_below {x n : Int} (h : 0 ≤ x ∧ x < n) (hn : n ≤ 1000000000) : ok x := ⟨by omega, by omega⟩

theorem and_255 (a : Int) : 0 ≤ N.and .i64 a 255 ∧ N.and .i64 a 255 ≤ 255 := by
  have h : (BitVec.ofInt 64 a &&& BitVec.ofInt 64 255).toNat ≤ 255 := by
    rw [BitVec.toNat_and]; exact Nat.and_le_right
  have e : N.and .i64 a 255 = (((BitVec.ofInt 64 a &&& BitVec.ofInt 64 255).toNat : Nat) : Int) := by
    show IntKind.i64.wrap _ = _
    exact wrap_id (by show _ ≤ (((BitVec.ofInt 64 a &&& BitVec.ofInt 64 255).toNat : Nat) : Int); omega) (by show (((BitVec.ofInt 64 a &&& BitVec.ofInt 64 255).toNat : Nat) : Int) < _; omega)
  rw [e]; omega

def few {α : Type} [Data α] (n : Nat) (xs : List α) : Prop := xs.length ≤ n ∧ ∀ x ∈ xs, ok x

theorem few.ok {α : Type} [Data α] {n : Nat} {xs : List α} (h : few n xs) (hn : n ≤ 1048576) : ok xs := ⟨Nat.le_trans h.1 hn, h.2⟩

theorem few.app {α : Type} [Data α] {n m : Nat} {xs : List α} {x : α} (h : few n xs) (hx : Data.ok x) (hm : n + 1 ≤ m) : few m (N.app xs [x]) :=
  ⟨by have := h.1; simp [N.app]; omega, fun y hy => by
    rcases List.mem_append.1 hy with hy | hy
    · exact h.2 y hy
    · simp at hy; subst hy; exact hx⟩

theorem few.rd {α : Type} [Data α] {n : Nat} {xs : List α} {i : Int} {d : α} (h : few n xs) (hd : Data.ok d) : Data.ok (N.rd xs i d) := by
  unfold N.rd
  rw [List.getD_eq_getElem?_getD]
  cases e : xs[i.toNat]? with
  | none => exact hd
  | some x => exact h.2 x (List.mem_of_getElem? e)

theorem few.nil {α : Type} [Data α] {n : Nat} : few n ([] : List α) := ⟨by simp, fun _ h => by cases h⟩

/-- count-down loops that add one element each -/
theorem Gets.fill {α C : Type} [Data α] {step : List α × Int × C → Option ((List α × Int × C) ⊕ (List α × C))} {K : C → Prop} {m : Nat} (hm : m ≤ 1000)
    (hs : ∀ xs n c, K c → 0 < n → n ≤ 1000 → few m xs → Gets (fun r => ∃ x c', r = .inl (N.app xs [x], N.sub .i64 n 1, c') ∧ ok x ∧ K c') (step (xs, n, c)))
    (he : ∀ xs n c, n ≤ 0 → step (xs, n, c) = some (.inr (xs, c))) {n : Int} {c : C} (hn0 : 0 ≤ n) (hn : n ≤ m) (hc : K c) :
    Gets (fun r => few m r.1 ∧ K r.2) (loopF step ([], n, c)) := by
  refine Gets.loop (I := fun s => (s.1.length : Int) + s.2.1 ≤ m ∧ 0 ≤ s.2.1 ∧ (∀ x ∈ s.1, ok x) ∧ K s.2.2) (m := fun s => s.2.1.toNat) (fun s h => ?_) _ ⟨by simpa using hn, hn0, fun _ h => (by cases h), hc⟩
  obtain ⟨xs, n, c⟩ := s
  obtain ⟨h1, h2, h3, h4⟩ := h
  simp only at h1 h2 h3 h4
  by_cases hn : 0 < n
  · obtain ⟨r, e, x, c', rfl, hx, hk⟩ := hs xs n c h4 hn (by omega) ⟨by omega, h3⟩
    refine ⟨_, e, ?_⟩
    have e1 : N.sub .i64 n 1 = n - 1 := sub_id (by omega) (by omega)
    simp only [e1]
    refine ⟨⟨by simp [N.app]; omega, by omega, ?_, hk⟩, by omega⟩
    exact (few.app (n := xs.length) ⟨Nat.le_refl _, h3⟩ hx (Nat.le_refl _)).2
  · exact ⟨_, he xs n c (by omega), ⟨by simp only; omega, h3⟩, h4⟩

namespace D
/-! ## The source of bytes -/
def curOk (c : l1Cur) : Prop := 0 ≤ c.2.1 ∧ c.2.1 ≤ (c.1.length : Int) ∧ c.1.length ≤ 1048576

theorem spec_l1New_is {x : List Int} (h : x.length ≤ 1048576) : Gets curOk (spec_l1New x) := by
  refine Gets.loop (I := fun s => 0 ≤ s.2) (m := fun s => x.length - s.2.toNat) (fun s hs => ?_) _ (by show (0 : Int) ≤ 0; omega)
  obtain ⟨a, i⟩ := s
  simp only at hs
  refine Gets.cond (fun h1 => Gets.cond (fun h2 => Gets.ite hs (Gets.ite ?_ (Gets.pure ?_))) fun _ => Gets.pure ⟨by simp only; omega, by simp only; omega, h⟩) fun _ => Gets.pure ⟨by simp only; omega, by simp only; omega, h⟩
  · simpa [N.lt] using h1
  · simp only [lt_d, len_d, decide_eq_true_eq] at h1
    have e : N.add .i64 i 1 = i + 1 := add_id (by omega) (by omega)
    simp only [e]; omega

theorem spec_l1Byte_is {c : l1Cur} (h : curOk c) : Gets (fun r => (0 ≤ r.1 ∧ r.1 ≤ 255) ∧ curOk r.2) (spec_l1Byte c) := by
  obtain ⟨xs, i, s⟩ := c
  obtain ⟨h1, h2, h3⟩ := h
  simp only at h1 h2 h3
  refine Gets.cond (fun h4 => Gets.ite h1 (Gets.ite ?_ (Gets.pure ⟨and_255 _, ?_⟩))) fun _ => Gets.pure ⟨and_255 _, h1, h2, h3⟩
  · simpa [N.lt] using h4
  · simp only [lt_d, len_d, decide_eq_true_eq] at h4
    have e : N.add .i64 i 1 = i + 1 := add_id (by omega) (by omega)
    refine ⟨?_, ?_, h3⟩ <;> simp only [e] <;> omega

theorem spec_l1Below_is {c : l1Cur} (h : curOk c) {n : Int} (h0 : 0 < n) : Gets (fun r => (0 ≤ r.1 ∧ r.1 < n) ∧ curOk r.2) (spec_l1Below c n) := by
  refine Gets.cond (fun h1 => ?_) fun _ => Gets.cond (fun _ => ?_) fun _ => ?_
  · simp only [le_d, decide_eq_true_eq] at h1; omega
  · refine Gets.bind (spec_l1Byte_is h) fun r ⟨h1, h2⟩ => Gets.nite (by omega) (Gets.pure ⟨?_, h2⟩)
    simp only [rem_pos h1.1]; exact ⟨Int.emod_nonneg _ (by omega), Int.emod_lt_of_pos _ h0⟩
  · refine Gets.bind (spec_l1Byte_is h) fun r ⟨h1, h2⟩ => Gets.bind (spec_l1Byte_is h2) fun r3 ⟨h3, h4⟩ => Gets.bind (spec_l1Byte_is h4) fun r4 ⟨h5, h6⟩ => Gets.nite (by omega) (Gets.pure ⟨?_, h6⟩)
    have e1 : N.mul .i64 r.1 65536 = r.1 * 65536 := mul_id (by omega) (by omega)
    have e2 : N.mul .i64 r3.1 256 = r3.1 * 256 := mul_id (by omega) (by omega)
    have e3 : N.add .i64 (r.1 * 65536) (r3.1 * 256) = r.1 * 65536 + r3.1 * 256 := add_id (by omega) (by omega)
    have e4 : N.add .i64 (r.1 * 65536 + r3.1 * 256) r4.1 = r.1 * 65536 + r3.1 * 256 + r4.1 := add_id (by omega) (by omega)
    simp only [e1, e2, e3, e4]
    rw [rem_pos (by omega)]
    exact ⟨Int.emod_nonneg _ (by omega), Int.emod_lt_of_pos _ h0⟩

theorem spec_l1Int_is {c : l1Cur} (h : curOk c) {l : List Int} (hl : 0 < l.length) (hk : ∀ x ∈ l, ok x) : Gets (fun r => (ok r.1 ∧ r.1 ∈ l) ∧ curOk r.2) (spec_l1Int c l) := by
  refine Gets.bind (spec_l1Below_is h (n := N.len l) (by rw [len_d]; omega)) fun r ⟨⟨h1, h2⟩, h3⟩ => Gets.ite h1 (Gets.ite h2 (Gets.pure ⟨?_, h3⟩))
  rw [len_d] at h2
  have e : r.1 = ((r.1.toNat : Nat) : Int) := by omega
  have hm : N.rd l r.1 0 ∈ l := by rw [e, rd_at l r.1.toNat (by omega)]; exact List.getElem_mem _
  exact ⟨hk _ hm, hm⟩

/-! ## Addresses and resources -/
theorem spec_l4Draw_is {c : l1Cur} (h : curOk c) : Gets (fun r => ok r.1 ∧ curOk r.2) (spec_l4Draw c) :=
  Gets.bind (spec_l1Below_is h (by omega)) fun r ⟨h1, h2⟩ => Gets.bind (spec_l1Below_is h2 (by omega)) fun r3 ⟨h3, h4⟩ => Gets.bind (spec_l1Below_is h4 (by omega)) fun r4 ⟨h5, h6⟩ =>
    Gets.pure ⟨⟨ok_add _ _, ok_below h3 (by omega), ok_below h5 (by omega)⟩, h6⟩

theorem spec_l4Raw_is {c : l1Cur} (h : curOk c) : Gets (fun r => ok r.1 ∧ curOk r.2) (spec_l4Raw c) :=
  Gets.bind (spec_l1Int_is h (by simp) (by simp [ok])) fun r ⟨h1, h2⟩ => Gets.pure ⟨h1.1, h2⟩

theorem spec_l4Any_is {c : l1Cur} (h : curOk c) : Gets (fun r => ok r.1 ∧ curOk r.2) (spec_l4Any c) := by
  refine Gets.bind (spec_l4Draw_is h) fun r ⟨⟨a1, a2, a3⟩, h2⟩ => Gets.bind (spec_l1Below_is h2 (by omega)) fun r2 ⟨h3, h4⟩ => ?_
  refine Gets.cond (fun _ => ?_) fun _ => Gets.cond (fun _ => ?_) fun _ => Gets.cond (fun _ => ?_) fun _ => Gets.pure ⟨⟨a1, a2, a3⟩, h4⟩
  all_goals exact Gets.bind (spec_l4Raw_is h4) fun r5 ⟨h5, h6⟩ => Gets.pure ⟨⟨by assumption, by assumption, by assumption⟩, h6⟩

theorem spec_l5Body_is {c : l1Cur} (h : curOk c) : Gets (fun r => few 5 r.1 ∧ curOk r.2) (spec_l5Body c) := by
  refine Gets.bind (spec_l1Below_is h (n := 5) (by omega)) fun r ⟨h1, h2⟩ => ?_
  refine Gets.fill (K := curOk) (m := 5) (by omega) (fun xs n c hc h0 h9 hx => ?_) (fun xs n c hn => ?_) h1.1 (by omega) h2
  · refine Gets.cond (fun _ => ?_) fun hf => ?_
    · refine Gets.bind (spec_l1Below_is hc (n := 9) (by omega)) fun r2 ⟨h3, h4⟩ => Gets.ite (fitsN (by have := hx.1; simp; omega) (by omega)) (Gets.pure ⟨_, _, rfl, ok_num (by omega) (by omega), h4⟩)
    · simp only [gt_d, decide_eq_false_iff_not] at hf; omega
  · simp only [gt_d, cond_dec]; rw [if_neg (by omega)]

def resOk (r : Int × List Int × Int × Int × Int × l1Cur) : Prop := (ok r.1 ∧ few 7 r.2.1 ∧ ok r.2.2.1 ∧ ok r.2.2.2.1 ∧ ok r.2.2.2.2.1) ∧ curOk r.2.2.2.2.2

theorem few.mono {α : Type} [Data α] {n m : Nat} {xs : List α} (h : few n xs) (hm : n ≤ m) : few m xs := ⟨Nat.le_trans h.1 hm, h.2⟩

theorem spec_l5Draw_is {c : l1Cur} (h : curOk c) : Gets (fun r => (ok r.1 ∧ few 5 r.2.1 ∧ ok r.2.2.1 ∧ ok r.2.2.2.1 ∧ ok r.2.2.2.2.1) ∧ curOk r.2.2.2.2.2) (spec_l5Draw c) := by
  have z : ∀ n : Int, 0 ≤ n → n ≤ 9 → ok n := fun n h1 h2 => ok_num (by omega) (by omega)
  refine Gets.bind (spec_l1Below_is h (by omega)) fun r ⟨h1, h2⟩ => Gets.cond (fun _ => ?_) fun _ => Gets.cond (fun _ => Gets.pure ⟨⟨z 4 (by omega) (by omega), few.nil, z 0 (by omega) (by omega), z 0 (by omega) (by omega), z 0 (by omega) (by omega)⟩, h2⟩) fun _ => ?_
  · exact Gets.bind (spec_l4Draw_is h2) fun r ⟨⟨a1, a2, a3⟩, h3⟩ => Gets.pure ⟨⟨z 3 (by omega) (by omega), few.nil, a1, a2, a3⟩, h3⟩
  · exact Gets.bind (spec_l1Below_is h2 (by omega)) fun r3 ⟨h3, h4⟩ => Gets.bind (spec_l5Body_is h4) fun r4 ⟨h5, h6⟩ => Gets.pure ⟨⟨ok_add _ _, h5, z 0 (by omega) (by omega), z 0 (by omega) (by omega), z 0 (by omega) (by omega)⟩, h6⟩

theorem spec_l5Any_is {c : l1Cur} (h : curOk c) : Gets resOk (spec_l5Any c) := by
  refine Gets.bind (spec_l5Draw_is h) fun r ⟨⟨a1, a2, a3, a4, a5⟩, h2⟩ => Gets.bind (spec_l1Below_is h2 (by omega)) fun r2 ⟨h3, h4⟩ => ?_
  have b2 := few.mono a2 (show 5 ≤ 7 by omega)
  refine Gets.cond (fun _ => ?_) fun _ => Gets.cond (fun _ => ?_) fun _ => Gets.cond (fun _ => ?_) fun _ => Gets.cond (fun _ => ?_) fun _ => Gets.pure ⟨⟨a1, b2, a3, a4, a5⟩, h4⟩
  · exact Gets.bind (spec_l1Int_is h4 (by simp) (by simp [ok])) fun r3 ⟨h5, h6⟩ => Gets.pure ⟨⟨h5.1, b2, a3, a4, a5⟩, h6⟩
  · exact Gets.bind (spec_l1Int_is h4 (by simp) (by simp [ok])) fun r3 ⟨h5, h6⟩ => Gets.ite (fitsN (by have := a2.1; simp; omega) (by omega)) (Gets.pure ⟨⟨a1, few.app a2 h5.1 (by omega), a3, a4, a5⟩, h6⟩)
  · exact Gets.pure ⟨⟨a1, ⟨by simp, by simp [ok]⟩, a3, a4, a5⟩, h4⟩
  · exact Gets.bind (spec_l4Any_is h4) fun r3 ⟨⟨h5, h6, h7⟩, h8⟩ => Gets.pure ⟨⟨a1, b2, h5, h6, h7⟩, h8⟩

end D
end Go.Sh
set_option linter.unusedVariables false
set_option linter.unusedSimpArgs false
set_option synthInstance.maxSize 100000
set_option maxHeartbeats 2000000
namespace Go.Sh
open Go Data
namespace D
end D
end Go.Sh
set_option linter.unusedVariables false
set_option linter.unusedSimpArgs false
set_option synthInstance.maxSize 100000
set_option maxHeartbeats 2000000
namespace Go.Sh
open Go Data
namespace D
theorem spec_l1Once_is {c : l1Cur} (h : curOk c) {n : Int} (h0 : 0 < n) : Gets (fun r => curOk r.2) (spec_l1Once c n) :=
  Gets.bind (spec_l1Below_is h h0) fun r ⟨_, h2⟩ => Gets.pure h2

end D
end Go.Sh
set_option linter.unusedVariables false
set_option linter.unusedSimpArgs false
set_option synthInstance.maxSize 100000
set_option maxHeartbeats 4000000
namespace Go.Sh
open Go Data
namespace D
end D
end Go.Sh
set_option linter.unusedVariables false
set_option linter.unusedSimpArgs false
set_option synthInstance.maxSize 100000
set_option maxHeartbeats 4000000
namespace Go.Sh
open Go Data
namespace D
end D
end Go.Sh
set_option linter.unusedVariables false
set_option linter.unusedSimpArgs false
set_option synthInstance.maxSize 100000
set_option maxHeartbeats 4000000
namespace Go.Sh
open Go Data
namespace D
end D
end Go.Sh
set_option linter.unusedVariables false
set_option linter.unusedSimpArgs false
set_option synthInstance.maxSize 100000
set_option maxHeartbeats 4000000
namespace Go.Sh
open Go Data
namespace D
end D
end Go.Sh
set_option linter.unusedVariables false
set_option linter.unusedSimpArgs false
set_option synthInstance.maxSize 100000
set_option maxHeartbeats 4000000
namespace Go.Sh
open Go Data
namespace D
end D
end Go.Sh
set_option linter.unusedVariables false
set_option linter.unusedSimpArgs false
set_option synthInstance.maxSize 100000
set_option maxHeartbeats 4000000
namespace Go.Sh
open Go Data
namespace D
end D
end Go.Sh
set_option linter.unusedVariables false
set_option linter.unusedSimpArgs false
set_option synthInstance.maxSize 100000
set_option maxHeartbeats 4000000
namespace Go.Sh
open Go Data
end Go.Sh
set_option linter.unusedVariables false
set_option linter.unusedSimpArgs false
set_option synthInstance.maxSize 100000
set_option maxHeartbeats 4000000
namespace Go.Sh
open Go Data
namespace D
end D
end Go.Sh
set_option linter.unusedVariables false
set_option linter.unusedSimpArgs false
set_option synthInstance.maxSize 100000
set_option maxHeartbeats 4000000
namespace Go.Sh
open Go Data
namespace D
end D
end Go.Sh
set_option linter.unusedVariables false
set_option linter.unusedSimpArgs false
set_option synthInstance.maxSize 100000
set_option maxHeartbeats 4000000
namespace Go.Sh
open Go Data
namespace D
end D
end Go.Sh
set_option linter.unusedVariables false
set_option linter.unusedSimpArgs false
set_option synthInstance.maxSize 100000
set_option maxHeartbeats 4000000
namespace Go.Sh
open Go Data
namespace D
end D
end Go.Sh
set_option linter.unusedVariables false
set_option linter.unusedSimpArgs false
set_option synthInstance.maxSize 100000
set_option maxHeartbeats 4000000
namespace Go.Sh
open Go Data
namespace D
end D
end Go.Sh
set_option linter.unusedVariables false
set_option linter.unusedSimpArgs false
set_option synthInstance.maxSize 100000
set_option maxHeartbeats 4000000
namespace Go.Sh
open Go Data
namespace D
end D
end Go.Sh
set_option linter.unusedVariables false
set_option linter.unusedSimpArgs false
set_option synthInstance.maxSize 100000
set_option maxHeartbeats 4000000
namespace Go.Sh
open Go Data
namespace D
end D
end Go.Sh
set_option linter.unusedVariables false
set_option linter.unusedSimpArgs false
set_option synthInstance.maxSize 100000
set_option maxHeartbeats 4000000
namespace Go.Sh
open Go Data
namespace D
end D
end Go.Sh
set_option linter.unusedVariables false
set_option linter.unusedSimpArgs false
set_option synthInstance.maxSize 100000
set_option maxHeartbeats 4000000
namespace Go.Sh
open Go Data
namespace D
end D
end Go.Sh
set_option linter.unusedVariables false
set_option linter.unusedSimpArgs false
set_option synthInstance.maxSize 100000
set_option maxHeartbeats 4000000
namespace Go.Sh
open Go Data
namespace D
end D
end Go.Sh
set_option linter.unusedVariables false
set_option linter.unusedSimpArgs false
set_option synthInstance.maxSize 100000
set_option maxHeartbeats 4000000
namespace Go.Sh
open Go Data
namespace D
end D
end Go.Sh
set_option linter.unusedVariables false
set_option linter.unusedSimpArgs false
set_option synthInstance.maxSize 100000
set_option maxHeartbeats 4000000
namespace Go.Sh
open Go Data
namespace D
end D
end Go.Sh
set_option linter.unusedVariables false
set_option linter.unusedSimpArgs false
set_option synthInstance.maxSize 100000
set_option maxHeartbeats 4000000
namespace Go.Sh
open Go Data
namespace D
end D
end Go.Sh
set_option linter.unusedVariables false
set_option linter.unusedSimpArgs false
set_option synthInstance.maxSize 100000
set_option maxHeartbeats 4000000
namespace Go.Sh
open Go Data
namespace D
end D
end Go.Sh
set_option linter.unusedVariables false
set_option linter.unusedSimpArgs false
set_option synthInstance.maxSize 100000
set_option maxHeartbeats 4000000
namespace Go.Sh
open Go Data
namespace D
end D
end Go.Sh
set_option linter.unusedVariables false
set_option linter.unusedSimpArgs false
set_option synthInstance.maxSize 100000
set_option maxHeartbeats 4000000
namespace Go.Sh
open Go Data
namespace D
end D
end Go.Sh
set_option linter.unusedVariables false
set_option linter.unusedSimpArgs false
set_option synthInstance.maxSize 100000
set_option maxHeartbeats 4000000
namespace Go.Sh
open Go Data
namespace D
end D
end Go.Sh
set_option linter.unusedVariables false
set_option linter.unusedSimpArgs false
set_option synthInstance.maxSize 100000
set_option maxHeartbeats 4000000
namespace Go.Sh
open Go Data
namespace D
/-! ## An answer is linear in its key -/
theorem fold_lin : ∀ (l : List Int) (h : Int), ∃ q : Int, l.foldl hash1 h = h * 1000003 ^ l.length + l.foldl hash1 0 + q * 2147483647
  | [], h => ⟨0, by simp⟩
  | v :: l, h => by
    obtain ⟨q1, e1⟩ := fold_lin l (hash1 h v)
    obtain ⟨q2, e2⟩ := fold_lin l (hash1 0 v)
    rw [List.foldl_cons, List.foldl_cons, e1, e2, List.length_cons, Int.pow_succ]
    generalize (1000003 : Int) ^ l.length = X
    generalize l.foldl hash1 0 = F
    obtain ⟨q3, e3⟩ : ∃ q3 : Int, hash1 h v = h * 1000003 + hash1 0 v + q3 * 2147483647 := by
      unfold hash1
      exact ⟨(0 * 1000003 + v % 2147483647 + 13) / 2147483647 - (h * 1000003 + v % 2147483647 + 13) / 2147483647, by omega⟩
    rw [e3]
    generalize hash1 0 v = y
    refine ⟨q3 * X + q1 - q2, ?_⟩
    have a1 : (h * 1000003 + y + q3 * 2147483647) * X = h * (X * 1000003) + y * X + q3 * X * 2147483647 := by
      rw [Int.add_mul, Int.add_mul, Int.mul_assoc, Int.mul_comm 1000003 X, Int.mul_assoc q3, Int.mul_comm 2147483647 X, ← Int.mul_assoc q3]
    have a2 : (q3 * X + q1 - q2) * 2147483647 = q3 * X * 2147483647 + q1 * 2147483647 - q2 * 2147483647 := by rw [Int.sub_mul, Int.add_mul]
    rw [a1, a2]
    omega

theorem keyed_fold (n : Int) (l : List Int) : keyedP n l = hash1 (l.foldl hash1 (hash1 11 n)) n := by
  unfold keyedP hashP
  rw [List.foldl_append, List.foldl_append]
  rfl

theorem keyed_lin {n : Int} (h0 : 0 ≤ n) (h1 : n < 2147483647) (l : List Int) : ∃ q : Int, keyedP n l = n * (1000003 ^ (l.length + 1) + 1) + keyedP 0 l + q * 2147483647 := by
  rw [keyed_fold, keyed_fold]
  obtain ⟨q1, e1⟩ := fold_lin l (hash1 11 n)
  obtain ⟨q2, e2⟩ := fold_lin l (hash1 11 0)
  obtain ⟨q3, e3⟩ : ∃ q3 : Int, hash1 11 n = hash1 11 0 + n + q3 * 2147483647 := by
    unfold hash1
    exact ⟨(11 * 1000003 + 0 % 2147483647 + 13) / 2147483647 - (11 * 1000003 + n % 2147483647 + 13) / 2147483647, by omega⟩
  rw [e1, e2, e3, Int.pow_succ]
  generalize (1000003 : Int) ^ l.length = X
  generalize l.foldl hash1 0 = F
  generalize hash1 11 0 = u
  have a1 : (u + n + q3 * 2147483647) * X + F + q1 * 2147483647 = (u * X + F + q2 * 2147483647) + n * X + (q3 * X + q1 - q2) * 2147483647 := by
    have b1 : (u + n + q3 * 2147483647) * X = u * X + n * X + q3 * X * 2147483647 := by
      rw [Int.add_mul, Int.add_mul, Int.mul_assoc q3, Int.mul_comm 2147483647 X, ← Int.mul_assoc q3]
    have b2 : (q3 * X + q1 - q2) * 2147483647 = q3 * X * 2147483647 + q1 * 2147483647 - q2 * 2147483647 := by rw [Int.sub_mul, Int.add_mul]
    rw [b1, b2]
    omega
  have a2 : n * (X * 1000003 + 1) = n * X * 1000003 + n := by rw [Int.mul_add, ← Int.mul_assoc, Int.mul_one]
  rw [a1, a2]
  generalize u * X + F + q2 * 2147483647 = Z
  generalize q3 * X + q1 - q2 = e
  generalize n * X = d
  unfold hash1
  exact ⟨e * 1000003 - ((Z + d + e * 2147483647) * 1000003 + n % 2147483647 + 13) / 2147483647 + (Z * 1000003 + 0 % 2147483647 + 13) / 2147483647, by omega⟩

theorem key_zero {n : Int} (h0 : 0 ≤ n) (h1 : n < 2147483647) {l : List Int} {w : Int} (hw : (1000003 ^ (l.length + 1) + 1) * w % 2147483647 = 1) (h : keyedP n l = 0) : n = (2147483647 - keyedP 0 l) * w % 2147483647 := by
  obtain ⟨q, e⟩ := keyed_lin h0 h1 l
  rw [h] at e
  generalize (1000003 : Int) ^ (l.length + 1) + 1 = Y at hw e
  generalize keyedP 0 l = c at e ⊢
  have e2 : (2147483647 : Int) - c = n * Y + (q + 1) * 2147483647 := by rw [Int.add_mul]; omega
  have e3 : Y * w = 1 + Y * w / 2147483647 * 2147483647 := by omega
  have e4 : (2147483647 - c) * w = n + (n * (Y * w / 2147483647) + (q + 1) * w) * 2147483647 := by
    rw [e2, Int.add_mul, Int.mul_assoc, e3, Int.mul_add, Int.mul_one, Int.add_mul (n * _), Int.mul_assoc (q + 1), Int.mul_comm 2147483647 w, ← Int.mul_assoc (q + 1), ← Int.mul_assoc n, Int.add_assoc]
    rw [← e3]
  rw [e4, Int.add_mul_emod_self_right, Int.emod_eq_of_lt h0 h1]

theorem key_inj {n n' : Int} (h0 : 0 ≤ n ∧ n < 2147483647) (h1 : 0 ≤ n' ∧ n' < 2147483647) {l : List Int} {w : Int} (hw : (1000003 ^ (l.length + 1) + 1) * w % 2147483647 = 1) (h : keyedP n l = keyedP n' l) : n = n' := by
  obtain ⟨q, e⟩ := keyed_lin h0.1 h0.2 l
  obtain ⟨q', e'⟩ := keyed_lin h1.1 h1.2 l
  rw [h, e'] at e
  generalize (1000003 : Int) ^ (l.length + 1) + 1 = Y at hw e
  generalize keyedP 0 l = c at e
  have e2 : (n - n') * Y = (q' - q) * 2147483647 := by rw [Int.sub_mul, Int.sub_mul]; omega
  have e3 : Y * w = 1 + Y * w / 2147483647 * 2147483647 := by omega
  have e4 : (n - n') * Y * w = (q' - q) * w * 2147483647 := by rw [e2, Int.mul_assoc, Int.mul_comm 2147483647 w, ← Int.mul_assoc]
  rw [Int.mul_assoc, e3, Int.mul_add, Int.mul_one, ← Int.mul_assoc] at e4
  generalize (n - n') * (Y * w / 2147483647) = a at e4
  generalize (q' - q) * w = b at e4
  omega

/-! ## The search, in natural numbers -/
def hN (h v : Nat) : Nat := (h * 1000003 + v + 13) % 2147483647

def rN (v : Int) : Nat := (v % 2147483647).toNat

theorem hN_is (h : Nat) (v : Int) : hash1 (h : Int) v = (hN h (rN v) : Int) := by unfold hash1 hN rN; omega

theorem rN_nat {n : Nat} (h : n < 2147483647) : rN (n : Int) = n := by unfold rN; omega

theorem hN_lt (h v : Nat) : hN h v < 2147483647 := by unfold hN; omega

theorem foldN_is : ∀ (l : List Int) (h : Nat), l.foldl hash1 (h : Int) = (((l.map rN).foldl hN h : Nat) : Int)
  | [], h => rfl
  | v :: l, h => by rw [List.foldl_cons, hN_is, foldN_is l]; rfl

theorem foldN_lt : ∀ (l : List Nat) (h : Nat), h < 2147483647 → l.foldl hN h < 2147483647
  | [], h, hh => hh
  | v :: l, h, hh => foldN_lt l _ (hN_lt h v)

def forceB : Nat → (Nat → Bool) → Bool
  | 0, K => K 0
  | n + 1, K => K (n + 1)

theorem forceB_eq (n : Nat) (K : Nat → Bool) : forceB n K = K n := by cases n <;> rfl

def needN (w st : Nat) : Nat := (2147483647 - hN st 0) * w % 2147483647

def excN (need : Nat) (l : List Nat) : Bool := [0, 1, 2, 3, 4].all fun lib => [0, 1, 2, 3, 4, 5, 6, 7, 8].all fun t => !(Nat.beq need (([lib, l.foldl hN 11, t].foldl hN 11) % 100000 + 1))

def leafOk (w : Nat) (l : List Nat) (st : Nat) : Bool := forceB (needN w st) fun need => match Nat.ble need 100000 with
  | true => excN need l
  | false => true

theorem excN_sound {l : List Int} {lib t : Int} (hl : 0 ≤ lib ∧ lib ≤ 4) (ht : 0 ≤ t ∧ t ≤ 8) {need : Nat} (h : excN need (l.map rN) = true) : nonceP lib (hashP l) t ≠ (need : Int) := by
  have e1 : hashP l = (((l.map rN).foldl hN 11 : Nat) : Int) := foldN_is l 11
  have hlt := foldN_lt (l.map rN) 11 (by omega)
  have e2 : hashP [lib, hashP l, t] = ((([lib.toNat, (l.map rN).foldl hN 11, t.toNat] : List Nat).foldl hN 11 : Nat) : Int) := by
    rw [e1]
    have := foldN_is [lib, (((l.map rN).foldl hN 11 : Nat) : Int), t] 11
    have r1 : rN lib = lib.toNat := by unfold rN; omega
    have r2 : rN (((l.map rN).foldl hN 11 : Nat) : Int) = (l.map rN).foldl hN 11 := rN_nat hlt
    have r3 : rN t = t.toNat := by unfold rN; omega
    rw [List.map_cons, List.map_cons, List.map_cons, List.map_nil, r1, r2, r3] at this
    exact this
  unfold nonceP
  rw [e2]
  intro hn
  unfold excN at h
  have h1 := List.all_eq_true.1 h lib.toNat (by simp only [List.mem_cons, List.not_mem_nil, or_false]; omega)
  have h2 := List.all_eq_true.1 h1 t.toNat (by simp only [List.mem_cons, List.not_mem_nil, or_false]; omega)
  have h3 : ([lib.toNat, (l.map rN).foldl hN 11, t.toNat].foldl hN 11) % 100000 + 1 = need := by omega
  rw [h3] at h2
  simp at h2

theorem leaf_sound {l : List Int} {w : Nat} (hw : (1000003 ^ (l.length + 1) + 1) * (w : Int) % 2147483647 = 1) (h : leafOk w (l.map rN) ((l.map rN).foldl hN (hN 11 0)) = true) {lib t : Int} (hl : 0 ≤ lib ∧ lib ≤ 4) (ht : 0 ≤ t ∧ t ≤ 8) : keyedP (nonceP lib (hashP l) t) l ≠ 0 := by
  intro hz
  have hn : 1 ≤ nonceP lib (hashP l) t ∧ nonceP lib (hashP l) t ≤ 100000 := by unfold nonceP; omega
  have e := key_zero (by omega) (by omega) hw hz
  have e1 : keyedP 0 l = (hN ((l.map rN).foldl hN (hN 11 0)) 0 : Int) := by
    rw [keyed_fold, show hash1 11 0 = ((hN 11 0 : Nat) : Int) from hN_is 11 0, foldN_is, hN_is]; rfl
  have hlt := hN_lt ((l.map rN).foldl hN (hN 11 0)) 0
  have e2 : (2147483647 - keyedP 0 l) * (w : Int) % 2147483647 = (needN w ((l.map rN).foldl hN (hN 11 0)) : Int) := by
    unfold needN
    rw [e1, Int.natCast_emod, Int.natCast_mul, Int.natCast_sub (by omega)]
    rfl
  rw [e2] at e
  unfold leafOk at h
  rw [forceB_eq] at h
  generalize needN w ((l.map rN).foldl hN (hN 11 0)) = need at e h
  have hb : Nat.ble need 100000 = true := by rw [Nat.ble_eq]; omega
  rw [hb] at h
  exact excN_sound hl ht h e

/-- all bodies of some length, with one of some tails -/
def goD (w : Nat) (tails : List (List Nat)) (hd : List Nat) : Nat → List Nat → Nat → Bool
  | 0, rb, st => tails.all fun t => leafOk w (hd ++ (rb.reverse ++ t)) (t.foldl hN st)
  | d + 1, rb, st => [0, 1, 2, 3, 4, 5, 6, 7, 8].all fun v => forceB (hN st v) fun st => goD w tails hd d (v :: rb) st

theorem goD_sound (w : Nat) (tails : List (List Nat)) (hd : List Nat) : ∀ (d : Nat) (rb : List Nat) (st : Nat), goD w tails hd d rb st = true → ∀ s : List Nat, s.length = d → (∀ v ∈ s, v ≤ 8) → ∀ t ∈ tails, leafOk w (hd ++ (rb.reverse ++ (s ++ t))) ((s ++ t).foldl hN st) = true
  | 0, rb, st, h, s, hs, hv, t, ht => by
    have : s = [] := List.length_eq_zero_iff.1 hs
    subst this
    exact List.all_eq_true.1 h t ht
  | d + 1, rb, st, h, [], hs, hv, t, ht => by simp at hs
  | d + 1, rb, st, h, v :: s, hs, hv, t, ht => by
    have h1 := List.all_eq_true.1 h v (by have := hv v (by simp); simp only [List.mem_cons, List.not_mem_nil, or_false]; omega)
    rw [forceB_eq] at h1
    have := goD_sound w tails hd d (v :: rb) (hN st v) h1 s (by simpa using hs) (fun x hx => hv x (by simp [hx])) t ht
    rw [List.reverse_cons, List.append_assoc] at this
    exact this

def wOf : Nat → Nat
  | 0 => 1512135426 | 1 => 1457146277 | 2 => 1073697267 | 3 => 449628120 | 4 => 76755781 | 5 => 120191346 | 6 => 865841807 | 7 => 1893323488 | _ => 0

theorem wOf_ok {n : Nat} (h : n ≤ 7) : ((1000003 : Int) ^ (5 + n + 1) + 1) * (wOf n : Int) % 2147483647 = 1 := by
  match n, h with
  | 0, _ => decide
  | 1, _ => decide
  | 2, _ => decide
  | 3, _ => decide
  | 4, _ => decide
  | 5, _ => decide
  | 6, _ => decide
  | 7, _ => decide
  | n + 8, h => omega

def headG (k h a q n e : Nat) (tails : List (List Nat)) : Bool := forceB ([k, h, a, q, n + e].foldl hN (hN 11 0)) fun st => goD (wOf (n + e)) tails [k, h, a, q, n + e] n [] st

/-! the same, quick: the kernel reckons with literals -/
def fN (h v : Nat) : Nat := Nat.mod (Nat.add (Nat.mul h (nat_lit 1000003)) v) (nat_lit 2147483647)

theorem fN_eq (h v : Nat) : fN h (v + 13) = hN h v := by
  show (h * 1000003 + (v + 13)) % 2147483647 = (h * 1000003 + v + 13) % 2147483647
  rw [Nat.add_assoc]

def leafF (w : Nat) (l : List Nat) (st : Nat) : Bool := cond (Nat.ble (Nat.mod (Nat.mul (Nat.sub (nat_lit 2147483647) (fN st (nat_lit 13))) w) (nat_lit 2147483647)) (nat_lit 100000))
  (excN (Nat.mod (Nat.mul (Nat.sub (nat_lit 2147483647) (fN st (nat_lit 13))) w) (nat_lit 2147483647)) l) true

theorem leafF_eq (w : Nat) (l : List Nat) (st : Nat) : leafF w l st = leafOk w l st := by
  have e : Nat.mod (Nat.mul (Nat.sub (nat_lit 2147483647) (fN st (nat_lit 13))) w) (nat_lit 2147483647) = needN w st := by
    unfold needN
    rw [← fN_eq]
    rfl
  unfold leafF leafOk
  rw [e, forceB_eq]
  cases Nat.ble (needN w st) 100000 <;> rfl

def step9 (st : Nat) (K : Nat → Nat → Bool) : Bool :=
  cond (forceB (fN st (nat_lit 13)) (K (nat_lit 0))) (cond (forceB (fN st (nat_lit 14)) (K (nat_lit 1))) (cond (forceB (fN st (nat_lit 15)) (K (nat_lit 2))) (cond (forceB (fN st (nat_lit 16)) (K (nat_lit 3))) (cond (forceB (fN st (nat_lit 17)) (K (nat_lit 4)))
    (cond (forceB (fN st (nat_lit 18)) (K (nat_lit 5))) (cond (forceB (fN st (nat_lit 19)) (K (nat_lit 6))) (cond (forceB (fN st (nat_lit 20)) (K (nat_lit 7))) (cond (forceB (fN st (nat_lit 21)) (K (nat_lit 8))) true false) false) false) false) false) false) false) false) false

theorem cond_pair {a b : Bool} (h : cond a b false = true) : a = true ∧ b = true := by cases a <;> simp_all

theorem step9_sound {st : Nat} {K : Nat → Nat → Bool} (h : step9 st K = true) : ∀ v, v ≤ 8 → K v (hN st v) = true := by
  unfold step9 at h
  simp only [forceB_eq] at h
  obtain ⟨h0, h⟩ := cond_pair h
  obtain ⟨h1, h⟩ := cond_pair h
  obtain ⟨h2, h⟩ := cond_pair h
  obtain ⟨h3, h⟩ := cond_pair h
  obtain ⟨h4, h⟩ := cond_pair h
  obtain ⟨h5, h⟩ := cond_pair h
  obtain ⟨h6, h⟩ := cond_pair h
  obtain ⟨h7, h⟩ := cond_pair h
  obtain ⟨h8, h⟩ := cond_pair h
  intro v hv
  rw [← fN_eq]
  match v, hv with
  | 0, _ => exact h0
  | 1, _ => exact h1
  | 2, _ => exact h2
  | 3, _ => exact h3
  | 4, _ => exact h4
  | 5, _ => exact h5
  | 6, _ => exact h6
  | 7, _ => exact h7
  | 8, _ => exact h8
  | n + 9, h => omega

def step9u (st : Nat) (K : Nat → Nat → Bool) : Bool :=
  cond (K (nat_lit 0) (fN st (nat_lit 13))) (cond (K (nat_lit 1) (fN st (nat_lit 14))) (cond (K (nat_lit 2) (fN st (nat_lit 15))) (cond (K (nat_lit 3) (fN st (nat_lit 16))) (cond (K (nat_lit 4) (fN st (nat_lit 17)))
    (cond (K (nat_lit 5) (fN st (nat_lit 18))) (cond (K (nat_lit 6) (fN st (nat_lit 19))) (cond (K (nat_lit 7) (fN st (nat_lit 20))) (cond (K (nat_lit 8) (fN st (nat_lit 21))) true false) false) false) false) false) false) false) false) false

theorem step9u_sound {st : Nat} {K : Nat → Nat → Bool} (h : step9u st K = true) : ∀ v, v ≤ 8 → K v (hN st v) = true := by
  refine step9_sound (K := K) ?_
  unfold step9
  simp only [forceB_eq]
  exact h

def zg1 (L : List Nat → Nat → Bool) (l : List Nat) (st : Nat) : Bool := step9u st fun v st => L (l ++ [v]) st

def zg2 (L : List Nat → Nat → Bool) (l : List Nat) (st : Nat) : Bool := step9 st fun v st => zg1 L (l ++ [v]) st

def zg3 (L : List Nat → Nat → Bool) (l : List Nat) (st : Nat) : Bool := step9 st fun v st => zg2 L (l ++ [v]) st

def zg4 (L : List Nat → Nat → Bool) (l : List Nat) (st : Nat) : Bool := step9 st fun v st => zg3 L (l ++ [v]) st

theorem zg1_sound {L : List Nat → Nat → Bool} {l : List Nat} {st : Nat} (h : zg1 L l st = true) : ∀ s : List Nat, s.length = 1 → (∀ v ∈ s, v ≤ 8) → L (l ++ s) (s.foldl hN st) = true
  | [a], _, hv => step9u_sound h a (hv a (by simp))
  | [], e, _ => by simp at e
  | _ :: _ :: _, e, _ => by simp at e

theorem zg2_sound {L : List Nat → Nat → Bool} {l : List Nat} {st : Nat} (h : zg2 L l st = true) : ∀ s : List Nat, s.length = 2 → (∀ v ∈ s, v ≤ 8) → L (l ++ s) (s.foldl hN st) = true
  | a :: s, e, hv => by
    have := zg1_sound (step9_sound h a (hv a (by simp))) s (by simpa using e) fun v hvs => hv v (by simp [hvs])
    rw [List.append_assoc] at this
    exact this
  | [], e, _ => by simp at e

theorem zg3_sound {L : List Nat → Nat → Bool} {l : List Nat} {st : Nat} (h : zg3 L l st = true) : ∀ s : List Nat, s.length = 3 → (∀ v ∈ s, v ≤ 8) → L (l ++ s) (s.foldl hN st) = true
  | a :: s, e, hv => by
    have := zg2_sound (step9_sound h a (hv a (by simp))) s (by simpa using e) fun v hvs => hv v (by simp [hvs])
    rw [List.append_assoc] at this
    exact this
  | [], e, _ => by simp at e

theorem zg4_sound {L : List Nat → Nat → Bool} {l : List Nat} {st : Nat} (h : zg4 L l st = true) : ∀ s : List Nat, s.length = 4 → (∀ v ∈ s, v ≤ 8) → L (l ++ s) (s.foldl hN st) = true
  | a :: s, e, hv => by
    have := zg3_sound (step9_sound h a (hv a (by simp))) s (by simpa using e) fun v hvs => hv v (by simp [hvs])
    rw [List.append_assoc] at this
    exact this
  | [], e, _ => by simp at e

/-- heads with bodies of up to four digits; e: how many numbers of a tail there are -/
def headsL (e : Nat) (L : Nat → List Nat → Nat → Bool) (k h a q : Nat) : Bool :=
  cond (forceB ([k, h, a, q, 0 + e].foldl hN (hN 11 0)) fun st => forceB (wOf (0 + e)) fun w => L w [k, h, a, q, 0 + e] st)
  (cond (forceB ([k, h, a, q, 1 + e].foldl hN (hN 11 0)) fun st => forceB (wOf (1 + e)) fun w => zg1 (L w) [k, h, a, q, 1 + e] st)
  (cond (forceB ([k, h, a, q, 2 + e].foldl hN (hN 11 0)) fun st => forceB (wOf (2 + e)) fun w => zg2 (L w) [k, h, a, q, 2 + e] st)
  (cond (forceB ([k, h, a, q, 3 + e].foldl hN (hN 11 0)) fun st => forceB (wOf (3 + e)) fun w => zg3 (L w) [k, h, a, q, 3 + e] st)
  (cond (forceB ([k, h, a, q, 4 + e].foldl hN (hN 11 0)) fun st => forceB (wOf (4 + e)) fun w => zg4 (L w) [k, h, a, q, 4 + e] st) true false) false) false) false) false

theorem headsL_sound {e : Nat} {L : Nat → List Nat → Nat → Bool} {k h a q : Nat} (hh : headsL e L k h a q = true) (s : List Nat) (hs : s.length ≤ 4) (hv : ∀ v ∈ s, v ≤ 8) :
    L (wOf (s.length + e)) ([k, h, a, q, s.length + e] ++ s) (s.foldl hN ([k, h, a, q, s.length + e].foldl hN (hN 11 0))) = true := by
  unfold headsL at hh
  simp only [forceB_eq] at hh
  obtain ⟨h0, hh⟩ := cond_pair hh
  obtain ⟨h1, hh⟩ := cond_pair hh
  obtain ⟨h2, hh⟩ := cond_pair hh
  obtain ⟨h3, hh⟩ := cond_pair hh
  obtain ⟨h4, hh⟩ := cond_pair hh
  have hc : s.length = 0 ∨ s.length = 1 ∨ s.length = 2 ∨ s.length = 3 ∨ s.length = 4 := by omega
  rcases hc with e0 | e0 | e0 | e0 | e0
  · have : s = [] := List.length_eq_zero_iff.1 e0
    subst this
    rw [List.length_nil, List.append_nil, List.foldl_nil]
    exact h0
  · rw [e0]; exact zg1_sound h1 s e0 hv
  · rw [e0]; exact zg2_sound h2 s e0 hv
  · rw [e0]; exact zg3_sound h3 s e0 hv
  · rw [e0]; exact zg4_sound h4 s e0 hv

def heads4 (k h a q : Nat) : Bool := headsL 0 leafF k h a q

def leaf3 (w : Nat) (l : List Nat) (st : Nat) : Bool := cond (forceB (fN st (nat_lit 2147483659)) (leafF w (l ++ [2147483646]))) (cond (forceB (fN st (nat_lit 268)) (leafF w (l ++ [255]))) (cond (forceB (fN st (nat_lit 269)) (leafF w (l ++ [256]))) true false) false) false

def heads3 (k h a q : Nat) : Bool := headsL 1 leaf3 k h a q

def tails3 : List (List Nat) := [[2147483646], [255], [256]]

def hsR : List Nat := [0, 1, 2, 3, 9, 10, 99, 100, 2147483646, 2147483645]

def rawR : List Nat := [0, 1, 2, 9, 10, 99, 100, 2147483646, 2147483645]

def pasR (h : Nat) : List Nat := if h = 1 ∨ h = 2 ∨ h = 3 then rawR else [0, 1, 2]

def qsR (h a : Nat) : List Nat := if (h = 1 ∨ h = 2 ∨ h = 3) ∧ a ≤ 2 then rawR else [0, 1, 2]

/-- whoever is asked about it answers a number that is not 0 -/
def Sound (l : List Int) : Prop := (∃ w : Int, (1000003 ^ (l.length + 1) + 1) * w % 2147483647 = 1) ∧ ∀ lib t : Int, (0 ≤ lib ∧ lib ≤ 4) → (0 ≤ t ∧ t ≤ 8) → keyedP (nonceP lib (hashP l) t) l ≠ 0

theorem head_sound {k h a q : Int} {n e : Nat} {tails : List (List Nat)} (hg : headG (rN k) (rN h) (rN a) (rN q) n e tails = true) {s t : List Int} (hs : s.length = n) (he : t.length = e) (hne : n + e ≤ 7) (hv : ∀ v ∈ s, 0 ≤ v ∧ v ≤ 8) (ht : t.map rN ∈ tails) : Sound ([k, h, a, q, ((s ++ t).length : Int)] ++ (s ++ t)) := by
  have hlen : (s ++ t).length = n + e := by simp [hs, he]
  have hl : ([k, h, a, q, ((s ++ t).length : Int)] ++ (s ++ t)).length = 5 + (n + e) := by simp [hs, he]; omega
  have hw := wOf_ok hne
  rw [← hl] at hw
  refine ⟨⟨_, hw⟩, fun lib tk h1 h2 => leaf_sound hw ?_ h1 h2⟩
  unfold headG at hg
  rw [forceB_eq] at hg
  have := goD_sound _ _ _ n [] _ hg (s.map rN) (by simpa using hs) (fun v hvm => by
    obtain ⟨x, hx, rfl⟩ := List.mem_map.1 hvm
    have := hv x hx
    unfold rN; omega) (t.map rN) ht
  have hr : rN ((s ++ t).length : Int) = n + e := by rw [hlen]; unfold rN; omega
  rw [List.map_append, List.foldl_append]
  have e1 : ([k, h, a, q, ((s ++ t).length : Int)] : List Int).map rN = [rN k, rN h, rN a, rN q, n + e] := by
    simp only [List.map_cons, List.map_nil, hr]
  rw [e1, List.map_append]
  exact this

theorem list_sound {k h a q : Int} {b : List Int} (hb : b.length ≤ 7) (hl : leafOk (wOf b.length) (([k, h, a, q, (b.length : Int)] ++ b).map rN) ((([k, h, a, q, (b.length : Int)] ++ b).map rN).foldl hN (hN 11 0)) = true) : Sound ([k, h, a, q, (b.length : Int)] ++ b) := by
  have hlen : ([k, h, a, q, (b.length : Int)] ++ b).length = 5 + b.length := by simp; omega
  have hw := wOf_ok hb
  rw [← hlen] at hw
  exact ⟨⟨_, hw⟩, fun lib tk h1 h2 => leaf_sound hw hl h1 h2⟩

theorem map_head (k h a q : Int) (b : List Int) (hb : b.length ≤ 7) : ([k, h, a, q, (b.length : Int)] ++ b).map rN = [rN k, rN h, rN a, rN q, b.length] ++ b.map rN := by
  rw [List.map_append, List.map_cons, List.map_cons, List.map_cons, List.map_cons, List.map_cons, List.map_nil, rN_nat (by omega)]

theorem digits_res {b : List Int} (h : ∀ v ∈ b, 0 ≤ v ∧ v ≤ 8) : ∀ v ∈ b.map rN, v ≤ 8 := fun v hv => by
  obtain ⟨x, hx, rfl⟩ := List.mem_map.1 hv
  have := h x hx
  unfold rN; omega

theorem heads4_sound {k h a q : Int} (hh : heads4 (rN k) (rN h) (rN a) (rN q) = true) {b : List Int} (hb : b.length ≤ 4) (hv : ∀ v ∈ b, 0 ≤ v ∧ v ≤ 8) : Sound ([k, h, a, q, (b.length : Int)] ++ b) := by
  refine list_sound (by omega) ?_
  rw [map_head _ _ _ _ _ (by omega), List.foldl_append]
  have := headsL_sound hh (b.map rN) (by simpa using hb) (digits_res hv)
  rw [List.length_map, leafF_eq] at this
  exact this

theorem heads3_sound {k h a q v : Int} (hh : heads3 (rN k) (rN h) (rN a) (rN q) = true) {b : List Int} (hb : b.length ≤ 4) (hv : ∀ v ∈ b, 0 ≤ v ∧ v ≤ 8) (ht : v ∈ ([-1, 255, 256] : List Int)) : Sound ([k, h, a, q, ((b ++ [v]).length : Int)] ++ (b ++ [v])) := by
  have hlen : (b ++ [v]).length = b.length + 1 := by simp
  refine list_sound (by omega) ?_
  rw [map_head _ _ _ _ _ (by omega), List.foldl_append, List.map_append, List.foldl_append, hlen]
  have := headsL_sound hh (b.map rN) (by simpa using hb) (digits_res hv)
  rw [List.length_map] at this
  unfold leaf3 at this
  simp only [forceB_eq] at this
  obtain ⟨t0, this⟩ := cond_pair this
  obtain ⟨t1, this⟩ := cond_pair this
  obtain ⟨t2, this⟩ := cond_pair this
  rw [leafF_eq, List.append_assoc] at t0 t1 t2
  simp only [List.mem_cons, List.not_mem_nil, or_false] at ht
  have r0 : rN (-1) = 2147483646 := by decide
  have r1 : rN 255 = 255 := by decide
  have r2 : rN 256 = 256 := by decide
  rcases ht with rfl | rfl | rfl
  · rw [List.map_cons, List.map_nil, List.foldl_cons, List.foldl_nil, r0, ← fN_eq]; exact t0
  · rw [List.map_cons, List.map_nil, List.foldl_cons, List.foldl_nil, r1, ← fN_eq]; exact t1
  · rw [List.map_cons, List.map_nil, List.foldl_cons, List.foldl_nil, r2, ← fN_eq]; exact t2

end D
end Go.Sh
set_option linter.unusedVariables false
set_option linter.unusedSimpArgs false
set_option maxRecDepth 100000
set_option maxHeartbeats 4000000
namespace Go.Sh
open Go Data
namespace D
/-! ## No key that is drawn gives 0: the search -/
theorem zz_1_0_0_0 : heads4 1 0 0 0 = true := by kernel_rfl
theorem zz_1_0_0_1 : heads4 1 0 0 1 = true := by kernel_rfl
theorem zz_1_0_0_2 : heads4 1 0 0 2 = true := by kernel_rfl
theorem zz_1_0_1_0 : heads4 1 0 1 0 = true := by kernel_rfl
theorem zz_1_0_1_1 : heads4 1 0 1 1 = true := by kernel_rfl
theorem zz_1_0_1_2 : heads4 1 0 1 2 = true := by kernel_rfl
theorem zz_1_0_2_0 : heads4 1 0 2 0 = true := by kernel_rfl
theorem zz_1_0_2_1 : heads4 1 0 2 1 = true := by kernel_rfl
theorem zz_1_0_2_2 : heads4 1 0 2 2 = true := by kernel_rfl
theorem zz_1_1_0_0 : heads4 1 1 0 0 = true := by kernel_rfl
theorem zz_1_1_0_1 : heads4 1 1 0 1 = true := by kernel_rfl
theorem zz_1_1_0_2 : heads4 1 1 0 2 = true := by kernel_rfl
theorem zz_1_1_0_9 : heads4 1 1 0 9 = true := by kernel_rfl
theorem zz_1_1_0_10 : heads4 1 1 0 10 = true := by kernel_rfl
theorem zz_1_1_0_99 : heads4 1 1 0 99 = true := by kernel_rfl
theorem zz_1_1_0_100 : heads4 1 1 0 100 = true := by kernel_rfl
theorem zz_1_1_0_2147483646 : heads4 1 1 0 2147483646 = true := by kernel_rfl
theorem zz_1_1_0_2147483645 : heads4 1 1 0 2147483645 = true := by kernel_rfl
theorem zz_1_1_1_0 : heads4 1 1 1 0 = true := by kernel_rfl
theorem zz_1_1_1_1 : heads4 1 1 1 1 = true := by kernel_rfl
theorem zz_1_1_1_2 : heads4 1 1 1 2 = true := by kernel_rfl
theorem zz_1_1_1_9 : heads4 1 1 1 9 = true := by kernel_rfl
theorem zz_1_1_1_10 : heads4 1 1 1 10 = true := by kernel_rfl
theorem zz_1_1_1_99 : heads4 1 1 1 99 = true := by kernel_rfl
theorem zz_1_1_1_100 : heads4 1 1 1 100 = true := by kernel_rfl
theorem zz_1_1_1_2147483646 : heads4 1 1 1 2147483646 = true := by kernel_rfl
theorem zz_1_1_1_2147483645 : heads4 1 1 1 2147483645 = true := by kernel_rfl
theorem zz_1_1_2_0 : heads4 1 1 2 0 = true := by kernel_rfl
theorem zz_1_1_2_1 : heads4 1 1 2 1 = true := by kernel_rfl
theorem zz_1_1_2_2 : heads4 1 1 2 2 = true := by kernel_rfl
theorem zz_1_1_2_9 : heads4 1 1 2 9 = true := by kernel_rfl
theorem zz_1_1_2_10 : heads4 1 1 2 10 = true := by kernel_rfl
theorem zz_1_1_2_99 : heads4 1 1 2 99 = true := by kernel_rfl
theorem zz_1_1_2_100 : heads4 1 1 2 100 = true := by kernel_rfl
theorem zz_1_1_2_2147483646 : heads4 1 1 2 2147483646 = true := by kernel_rfl
theorem zz_1_1_2_2147483645 : heads4 1 1 2 2147483645 = true := by kernel_rfl
theorem zz_1_1_9_0 : heads4 1 1 9 0 = true := by kernel_rfl
theorem zz_1_1_9_1 : heads4 1 1 9 1 = true := by kernel_rfl
theorem zz_1_1_9_2 : heads4 1 1 9 2 = true := by kernel_rfl
theorem zz_1_1_10_0 : heads4 1 1 10 0 = true := by kernel_rfl
theorem zz_1_1_10_1 : heads4 1 1 10 1 = true := by kernel_rfl
theorem zz_1_1_10_2 : heads4 1 1 10 2 = true := by kernel_rfl
theorem zz_1_1_99_0 : heads4 1 1 99 0 = true := by kernel_rfl
theorem zz_1_1_99_1 : heads4 1 1 99 1 = true := by kernel_rfl
theorem zz_1_1_99_2 : heads4 1 1 99 2 = true := by kernel_rfl
theorem zz_1_1_100_0 : heads4 1 1 100 0 = true := by kernel_rfl
theorem zz_1_1_100_1 : heads4 1 1 100 1 = true := by kernel_rfl
theorem zz_1_1_100_2 : heads4 1 1 100 2 = true := by kernel_rfl
theorem zz_1_1_2147483646_0 : heads4 1 1 2147483646 0 = true := by kernel_rfl
theorem zz_1_1_2147483646_1 : heads4 1 1 2147483646 1 = true := by kernel_rfl
theorem zz_1_1_2147483646_2 : heads4 1 1 2147483646 2 = true := by kernel_rfl
theorem zz_1_1_2147483645_0 : heads4 1 1 2147483645 0 = true := by kernel_rfl
theorem zz_1_1_2147483645_1 : heads4 1 1 2147483645 1 = true := by kernel_rfl
theorem zz_1_1_2147483645_2 : heads4 1 1 2147483645 2 = true := by kernel_rfl
theorem zz_1_2_0_0 : heads4 1 2 0 0 = true := by kernel_rfl
theorem zz_1_2_0_1 : heads4 1 2 0 1 = true := by kernel_rfl
theorem zz_1_2_0_2 : heads4 1 2 0 2 = true := by kernel_rfl
theorem zz_1_2_0_9 : heads4 1 2 0 9 = true := by kernel_rfl
theorem zz_1_2_0_10 : heads4 1 2 0 10 = true := by kernel_rfl
theorem zz_1_2_0_99 : heads4 1 2 0 99 = true := by kernel_rfl
theorem zz_1_2_0_100 : heads4 1 2 0 100 = true := by kernel_rfl
theorem zz_1_2_0_2147483646 : heads4 1 2 0 2147483646 = true := by kernel_rfl
theorem zz_1_2_0_2147483645 : heads4 1 2 0 2147483645 = true := by kernel_rfl
theorem zz_1_2_1_0 : heads4 1 2 1 0 = true := by kernel_rfl
theorem zz_1_2_1_1 : heads4 1 2 1 1 = true := by kernel_rfl
theorem zz_1_2_1_2 : heads4 1 2 1 2 = true := by kernel_rfl
theorem zz_1_2_1_9 : heads4 1 2 1 9 = true := by kernel_rfl
theorem zz_1_2_1_10 : heads4 1 2 1 10 = true := by kernel_rfl
theorem zz_1_2_1_99 : heads4 1 2 1 99 = true := by kernel_rfl
theorem zz_1_2_1_100 : heads4 1 2 1 100 = true := by kernel_rfl
theorem zz_1_2_1_2147483646 : heads4 1 2 1 2147483646 = true := by kernel_rfl
theorem zz_1_2_1_2147483645 : heads4 1 2 1 2147483645 = true := by kernel_rfl
theorem zz_1_2_2_0 : heads4 1 2 2 0 = true := by kernel_rfl
theorem zz_1_2_2_1 : heads4 1 2 2 1 = true := by kernel_rfl
theorem zz_1_2_2_2 : heads4 1 2 2 2 = true := by kernel_rfl
theorem zz_1_2_2_9 : heads4 1 2 2 9 = true := by kernel_rfl
theorem zz_1_2_2_10 : heads4 1 2 2 10 = true := by kernel_rfl
theorem zz_1_2_2_99 : heads4 1 2 2 99 = true := by kernel_rfl
theorem zz_1_2_2_100 : heads4 1 2 2 100 = true := by kernel_rfl
theorem zz_1_2_2_2147483646 : heads4 1 2 2 2147483646 = true := by kernel_rfl
theorem zz_1_2_2_2147483645 : heads4 1 2 2 2147483645 = true := by kernel_rfl
theorem zz_1_2_9_0 : heads4 1 2 9 0 = true := by kernel_rfl
theorem zz_1_2_9_1 : heads4 1 2 9 1 = true := by kernel_rfl
theorem zz_1_2_9_2 : heads4 1 2 9 2 = true := by kernel_rfl
theorem zz_1_2_10_0 : heads4 1 2 10 0 = true := by kernel_rfl
theorem zz_1_2_10_1 : heads4 1 2 10 1 = true := by kernel_rfl
theorem zz_1_2_10_2 : heads4 1 2 10 2 = true := by kernel_rfl
theorem zz_1_2_99_0 : heads4 1 2 99 0 = true := by kernel_rfl
theorem zz_1_2_99_1 : heads4 1 2 99 1 = true := by kernel_rfl
theorem zz_1_2_99_2 : heads4 1 2 99 2 = true := by kernel_rfl
theorem zz_1_2_100_0 : heads4 1 2 100 0 = true := by kernel_rfl
theorem zz_1_2_100_1 : heads4 1 2 100 1 = true := by kernel_rfl
theorem zz_1_2_100_2 : heads4 1 2 100 2 = true := by kernel_rfl
theorem zz_1_2_2147483646_0 : heads4 1 2 2147483646 0 = true := by kernel_rfl
theorem zz_1_2_2147483646_1 : heads4 1 2 2147483646 1 = true := by kernel_rfl
theorem zz_1_2_2147483646_2 : heads4 1 2 2147483646 2 = true := by kernel_rfl
theorem zz_1_2_2147483645_0 : heads4 1 2 2147483645 0 = true := by kernel_rfl
theorem zz_1_2_2147483645_1 : heads4 1 2 2147483645 1 = true := by kernel_rfl
theorem zz_1_2_2147483645_2 : heads4 1 2 2147483645 2 = true := by kernel_rfl
theorem zz_1_3_0_0 : heads4 1 3 0 0 = true := by kernel_rfl
theorem zz_1_3_0_1 : heads4 1 3 0 1 = true := by kernel_rfl
theorem zz_1_3_0_2 : heads4 1 3 0 2 = true := by kernel_rfl
theorem zz_1_3_0_9 : heads4 1 3 0 9 = true := by kernel_rfl
theorem zz_1_3_0_10 : heads4 1 3 0 10 = true := by kernel_rfl
theorem zz_1_3_0_99 : heads4 1 3 0 99 = true := by kernel_rfl
theorem zz_1_3_0_100 : heads4 1 3 0 100 = true := by kernel_rfl
theorem zz_1_3_0_2147483646 : heads4 1 3 0 2147483646 = true := by kernel_rfl
theorem zz_1_3_0_2147483645 : heads4 1 3 0 2147483645 = true := by kernel_rfl
theorem zz_1_3_1_0 : heads4 1 3 1 0 = true := by kernel_rfl
theorem zz_1_3_1_1 : heads4 1 3 1 1 = true := by kernel_rfl
theorem zz_1_3_1_2 : heads4 1 3 1 2 = true := by kernel_rfl
theorem zz_1_3_1_9 : heads4 1 3 1 9 = true := by kernel_rfl
theorem zz_1_3_1_10 : heads4 1 3 1 10 = true := by kernel_rfl
theorem zz_1_3_1_99 : heads4 1 3 1 99 = true := by kernel_rfl
theorem zz_1_3_1_100 : heads4 1 3 1 100 = true := by kernel_rfl
theorem zz_1_3_1_2147483646 : heads4 1 3 1 2147483646 = true := by kernel_rfl
theorem zz_1_3_1_2147483645 : heads4 1 3 1 2147483645 = true := by kernel_rfl
theorem zz_1_3_2_0 : heads4 1 3 2 0 = true := by kernel_rfl
theorem zz_1_3_2_1 : heads4 1 3 2 1 = true := by kernel_rfl
theorem zz_1_3_2_2 : heads4 1 3 2 2 = true := by kernel_rfl
theorem zz_1_3_2_9 : heads4 1 3 2 9 = true := by kernel_rfl
theorem zz_1_3_2_10 : heads4 1 3 2 10 = true := by kernel_rfl
theorem zz_1_3_2_99 : heads4 1 3 2 99 = true := by kernel_rfl
theorem zz_1_3_2_100 : heads4 1 3 2 100 = true := by kernel_rfl
theorem zz_1_3_2_2147483646 : heads4 1 3 2 2147483646 = true := by kernel_rfl
theorem zz_1_3_2_2147483645 : heads4 1 3 2 2147483645 = true := by kernel_rfl
theorem zz_1_3_9_0 : heads4 1 3 9 0 = true := by kernel_rfl
theorem zz_1_3_9_1 : heads4 1 3 9 1 = true := by kernel_rfl
theorem zz_1_3_9_2 : heads4 1 3 9 2 = true := by kernel_rfl
theorem zz_1_3_10_0 : heads4 1 3 10 0 = true := by kernel_rfl
theorem zz_1_3_10_1 : heads4 1 3 10 1 = true := by kernel_rfl
theorem zz_1_3_10_2 : heads4 1 3 10 2 = true := by kernel_rfl
theorem zz_1_3_99_0 : heads4 1 3 99 0 = true := by kernel_rfl
theorem zz_1_3_99_1 : heads4 1 3 99 1 = true := by kernel_rfl
theorem zz_1_3_99_2 : heads4 1 3 99 2 = true := by kernel_rfl
theorem zz_1_3_100_0 : heads4 1 3 100 0 = true := by kernel_rfl
theorem zz_1_3_100_1 : heads4 1 3 100 1 = true := by kernel_rfl
theorem zz_1_3_100_2 : heads4 1 3 100 2 = true := by kernel_rfl
theorem zz_1_3_2147483646_0 : heads4 1 3 2147483646 0 = true := by kernel_rfl
theorem zz_1_3_2147483646_1 : heads4 1 3 2147483646 1 = true := by kernel_rfl
theorem zz_1_3_2147483646_2 : heads4 1 3 2147483646 2 = true := by kernel_rfl
theorem zz_1_3_2147483645_0 : heads4 1 3 2147483645 0 = true := by kernel_rfl
theorem zz_1_3_2147483645_1 : heads4 1 3 2147483645 1 = true := by kernel_rfl
theorem zz_1_3_2147483645_2 : heads4 1 3 2147483645 2 = true := by kernel_rfl
theorem zz_1_9_0_0 : heads4 1 9 0 0 = true := by kernel_rfl
theorem zz_1_9_0_1 : heads4 1 9 0 1 = true := by kernel_rfl
theorem zz_1_9_0_2 : heads4 1 9 0 2 = true := by kernel_rfl
theorem zz_1_9_1_0 : heads4 1 9 1 0 = true := by kernel_rfl
theorem zz_1_9_1_1 : heads4 1 9 1 1 = true := by kernel_rfl
theorem zz_1_9_1_2 : heads4 1 9 1 2 = true := by kernel_rfl
theorem zz_1_9_2_0 : heads4 1 9 2 0 = true := by kernel_rfl
theorem zz_1_9_2_1 : heads4 1 9 2 1 = true := by kernel_rfl
theorem zz_1_9_2_2 : heads4 1 9 2 2 = true := by kernel_rfl
theorem zz_1_10_0_0 : heads4 1 10 0 0 = true := by kernel_rfl
theorem zz_1_10_0_1 : heads4 1 10 0 1 = true := by kernel_rfl
theorem zz_1_10_0_2 : heads4 1 10 0 2 = true := by kernel_rfl
theorem zz_1_10_1_0 : heads4 1 10 1 0 = true := by kernel_rfl
theorem zz_1_10_1_1 : heads4 1 10 1 1 = true := by kernel_rfl
theorem zz_1_10_1_2 : heads4 1 10 1 2 = true := by kernel_rfl
theorem zz_1_10_2_0 : heads4 1 10 2 0 = true := by kernel_rfl
theorem zz_1_10_2_1 : heads4 1 10 2 1 = true := by kernel_rfl
theorem zz_1_10_2_2 : heads4 1 10 2 2 = true := by kernel_rfl
theorem zz_1_99_0_0 : heads4 1 99 0 0 = true := by kernel_rfl
theorem zz_1_99_0_1 : heads4 1 99 0 1 = true := by kernel_rfl
theorem zz_1_99_0_2 : heads4 1 99 0 2 = true := by kernel_rfl
theorem zz_1_99_1_0 : heads4 1 99 1 0 = true := by kernel_rfl
theorem zz_1_99_1_1 : heads4 1 99 1 1 = true := by kernel_rfl
theorem zz_1_99_1_2 : heads4 1 99 1 2 = true := by kernel_rfl
theorem zz_1_99_2_0 : heads4 1 99 2 0 = true := by kernel_rfl
theorem zz_1_99_2_1 : heads4 1 99 2 1 = true := by kernel_rfl
theorem zz_1_99_2_2 : heads4 1 99 2 2 = true := by kernel_rfl
theorem zz_1_100_0_0 : heads4 1 100 0 0 = true := by kernel_rfl
theorem zz_1_100_0_1 : heads4 1 100 0 1 = true := by kernel_rfl
theorem zz_1_100_0_2 : heads4 1 100 0 2 = true := by kernel_rfl
theorem zz_1_100_1_0 : heads4 1 100 1 0 = true := by kernel_rfl
theorem zz_1_100_1_1 : heads4 1 100 1 1 = true := by kernel_rfl
theorem zz_1_100_1_2 : heads4 1 100 1 2 = true := by kernel_rfl
theorem zz_1_100_2_0 : heads4 1 100 2 0 = true := by kernel_rfl
theorem zz_1_100_2_1 : heads4 1 100 2 1 = true := by kernel_rfl
theorem zz_1_100_2_2 : heads4 1 100 2 2 = true := by kernel_rfl
theorem zz_1_2147483646_0_0 : heads4 1 2147483646 0 0 = true := by kernel_rfl
theorem zz_1_2147483646_0_1 : heads4 1 2147483646 0 1 = true := by kernel_rfl
theorem zz_1_2147483646_0_2 : heads4 1 2147483646 0 2 = true := by kernel_rfl
theorem zz_1_2147483646_1_0 : heads4 1 2147483646 1 0 = true := by kernel_rfl
theorem zz_1_2147483646_1_1 : heads4 1 2147483646 1 1 = true := by kernel_rfl
theorem zz_1_2147483646_1_2 : heads4 1 2147483646 1 2 = true := by kernel_rfl
theorem zz_1_2147483646_2_0 : heads4 1 2147483646 2 0 = true := by kernel_rfl
theorem zz_1_2147483646_2_1 : heads4 1 2147483646 2 1 = true := by kernel_rfl
theorem zz_1_2147483646_2_2 : heads4 1 2147483646 2 2 = true := by kernel_rfl
theorem zz_1_2147483645_0_0 : heads4 1 2147483645 0 0 = true := by kernel_rfl
theorem zz_1_2147483645_0_1 : heads4 1 2147483645 0 1 = true := by kernel_rfl
theorem zz_1_2147483645_0_2 : heads4 1 2147483645 0 2 = true := by kernel_rfl
theorem zz_1_2147483645_1_0 : heads4 1 2147483645 1 0 = true := by kernel_rfl
theorem zz_1_2147483645_1_1 : heads4 1 2147483645 1 1 = true := by kernel_rfl
theorem zz_1_2147483645_1_2 : heads4 1 2147483645 1 2 = true := by kernel_rfl
theorem zz_1_2147483645_2_0 : heads4 1 2147483645 2 0 = true := by kernel_rfl
theorem zz_1_2147483645_2_1 : heads4 1 2147483645 2 1 = true := by kernel_rfl
theorem zz_1_2147483645_2_2 : heads4 1 2147483645 2 2 = true := by kernel_rfl
theorem zz_2_0_0_0 : heads4 2 0 0 0 = true := by kernel_rfl
theorem zz_2_0_0_1 : heads4 2 0 0 1 = true := by kernel_rfl
theorem zz_2_0_0_2 : heads4 2 0 0 2 = true := by kernel_rfl
theorem zz_2_0_1_0 : heads4 2 0 1 0 = true := by kernel_rfl
theorem zz_2_0_1_1 : heads4 2 0 1 1 = true := by kernel_rfl
theorem zz_2_0_1_2 : heads4 2 0 1 2 = true := by kernel_rfl
theorem zz_2_0_2_0 : heads4 2 0 2 0 = true := by kernel_rfl
theorem zz_2_0_2_1 : heads4 2 0 2 1 = true := by kernel_rfl
theorem zz_2_0_2_2 : heads4 2 0 2 2 = true := by kernel_rfl
theorem zz_2_1_0_0 : heads4 2 1 0 0 = true := by kernel_rfl
theorem zz_2_1_0_1 : heads4 2 1 0 1 = true := by kernel_rfl
theorem zz_2_1_0_2 : heads4 2 1 0 2 = true := by kernel_rfl
theorem zz_2_1_0_9 : heads4 2 1 0 9 = true := by kernel_rfl
theorem zz_2_1_0_10 : heads4 2 1 0 10 = true := by kernel_rfl
theorem zz_2_1_0_99 : heads4 2 1 0 99 = true := by kernel_rfl
theorem zz_2_1_0_100 : heads4 2 1 0 100 = true := by kernel_rfl
theorem zz_2_1_0_2147483646 : heads4 2 1 0 2147483646 = true := by kernel_rfl
theorem zz_2_1_0_2147483645 : heads4 2 1 0 2147483645 = true := by kernel_rfl
theorem zz_2_1_1_0 : heads4 2 1 1 0 = true := by kernel_rfl
theorem zz_2_1_1_1 : heads4 2 1 1 1 = true := by kernel_rfl
theorem zz_2_1_1_2 : heads4 2 1 1 2 = true := by kernel_rfl
theorem zz_2_1_1_9 : heads4 2 1 1 9 = true := by kernel_rfl
theorem zz_2_1_1_10 : heads4 2 1 1 10 = true := by kernel_rfl
theorem zz_2_1_1_99 : heads4 2 1 1 99 = true := by kernel_rfl
theorem zz_2_1_1_100 : heads4 2 1 1 100 = true := by kernel_rfl
theorem zz_2_1_1_2147483646 : heads4 2 1 1 2147483646 = true := by kernel_rfl
theorem zz_2_1_1_2147483645 : heads4 2 1 1 2147483645 = true := by kernel_rfl
theorem zz_2_1_2_0 : heads4 2 1 2 0 = true := by kernel_rfl
theorem zz_2_1_2_1 : heads4 2 1 2 1 = true := by kernel_rfl
theorem zz_2_1_2_2 : heads4 2 1 2 2 = true := by kernel_rfl
theorem zz_2_1_2_9 : heads4 2 1 2 9 = true := by kernel_rfl
theorem zz_2_1_2_10 : heads4 2 1 2 10 = true := by kernel_rfl
theorem zz_2_1_2_99 : heads4 2 1 2 99 = true := by kernel_rfl
theorem zz_2_1_2_100 : heads4 2 1 2 100 = true := by kernel_rfl
theorem zz_2_1_2_2147483646 : heads4 2 1 2 2147483646 = true := by kernel_rfl
theorem zz_2_1_2_2147483645 : heads4 2 1 2 2147483645 = true := by kernel_rfl
theorem zz_2_1_9_0 : heads4 2 1 9 0 = true := by kernel_rfl
theorem zz_2_1_9_1 : heads4 2 1 9 1 = true := by kernel_rfl
theorem zz_2_1_9_2 : heads4 2 1 9 2 = true := by kernel_rfl
theorem zz_2_1_10_0 : heads4 2 1 10 0 = true := by kernel_rfl
theorem zz_2_1_10_1 : heads4 2 1 10 1 = true := by kernel_rfl
theorem zz_2_1_10_2 : heads4 2 1 10 2 = true := by kernel_rfl
theorem zz_2_1_99_0 : heads4 2 1 99 0 = true := by kernel_rfl
theorem zz_2_1_99_1 : heads4 2 1 99 1 = true := by kernel_rfl
theorem zz_2_1_99_2 : heads4 2 1 99 2 = true := by kernel_rfl
theorem zz_2_1_100_0 : heads4 2 1 100 0 = true := by kernel_rfl
theorem zz_2_1_100_1 : heads4 2 1 100 1 = true := by kernel_rfl
theorem zz_2_1_100_2 : heads4 2 1 100 2 = true := by kernel_rfl
theorem zz_2_1_2147483646_0 : heads4 2 1 2147483646 0 = true := by kernel_rfl
theorem zz_2_1_2147483646_1 : heads4 2 1 2147483646 1 = true := by kernel_rfl
theorem zz_2_1_2147483646_2 : heads4 2 1 2147483646 2 = true := by kernel_rfl
theorem zz_2_1_2147483645_0 : heads4 2 1 2147483645 0 = true := by kernel_rfl
theorem zz_2_1_2147483645_1 : heads4 2 1 2147483645 1 = true := by kernel_rfl
theorem zz_2_1_2147483645_2 : heads4 2 1 2147483645 2 = true := by kernel_rfl
theorem zz_2_2_0_0 : heads4 2 2 0 0 = true := by kernel_rfl
theorem zz_2_2_0_1 : heads4 2 2 0 1 = true := by kernel_rfl
theorem zz_2_2_0_2 : heads4 2 2 0 2 = true := by kernel_rfl
theorem zz_2_2_0_9 : heads4 2 2 0 9 = true := by kernel_rfl
theorem zz_2_2_0_10 : heads4 2 2 0 10 = true := by kernel_rfl
theorem zz_2_2_0_99 : heads4 2 2 0 99 = true := by kernel_rfl
theorem zz_2_2_0_100 : heads4 2 2 0 100 = true := by kernel_rfl
theorem zz_2_2_0_2147483646 : heads4 2 2 0 2147483646 = true := by kernel_rfl
theorem zz_2_2_0_2147483645 : heads4 2 2 0 2147483645 = true := by kernel_rfl
theorem zz_2_2_1_0 : heads4 2 2 1 0 = true := by kernel_rfl
theorem zz_2_2_1_1 : heads4 2 2 1 1 = true := by kernel_rfl
theorem zz_2_2_1_2 : heads4 2 2 1 2 = true := by kernel_rfl
theorem zz_2_2_1_9 : heads4 2 2 1 9 = true := by kernel_rfl
theorem zz_2_2_1_10 : heads4 2 2 1 10 = true := by kernel_rfl
theorem zz_2_2_1_99 : heads4 2 2 1 99 = true := by kernel_rfl
theorem zz_2_2_1_100 : heads4 2 2 1 100 = true := by kernel_rfl
theorem zz_2_2_1_2147483646 : heads4 2 2 1 2147483646 = true := by kernel_rfl
theorem zz_2_2_1_2147483645 : heads4 2 2 1 2147483645 = true := by kernel_rfl
theorem zz_2_2_2_0 : heads4 2 2 2 0 = true := by kernel_rfl
theorem zz_2_2_2_1 : heads4 2 2 2 1 = true := by kernel_rfl
theorem zz_2_2_2_2 : heads4 2 2 2 2 = true := by kernel_rfl
theorem zz_2_2_2_9 : heads4 2 2 2 9 = true := by kernel_rfl
theorem zz_2_2_2_10 : heads4 2 2 2 10 = true := by kernel_rfl
theorem zz_2_2_2_99 : heads4 2 2 2 99 = true := by kernel_rfl
theorem zz_2_2_2_100 : heads4 2 2 2 100 = true := by kernel_rfl
theorem zz_2_2_2_2147483646 : heads4 2 2 2 2147483646 = true := by kernel_rfl
theorem zz_2_2_2_2147483645 : heads4 2 2 2 2147483645 = true := by kernel_rfl
theorem zz_2_2_9_0 : heads4 2 2 9 0 = true := by kernel_rfl
theorem zz_2_2_9_1 : heads4 2 2 9 1 = true := by kernel_rfl
theorem zz_2_2_9_2 : heads4 2 2 9 2 = true := by kernel_rfl
theorem zz_2_2_10_0 : heads4 2 2 10 0 = true := by kernel_rfl
theorem zz_2_2_10_1 : heads4 2 2 10 1 = true := by kernel_rfl
theorem zz_2_2_10_2 : heads4 2 2 10 2 = true := by kernel_rfl
theorem zz_2_2_99_0 : heads4 2 2 99 0 = true := by kernel_rfl
theorem zz_2_2_99_1 : heads4 2 2 99 1 = true := by kernel_rfl
theorem zz_2_2_99_2 : heads4 2 2 99 2 = true := by kernel_rfl
theorem zz_2_2_100_0 : heads4 2 2 100 0 = true := by kernel_rfl
theorem zz_2_2_100_1 : heads4 2 2 100 1 = true := by kernel_rfl
theorem zz_2_2_100_2 : heads4 2 2 100 2 = true := by kernel_rfl
theorem zz_2_2_2147483646_0 : heads4 2 2 2147483646 0 = true := by kernel_rfl
theorem zz_2_2_2147483646_1 : heads4 2 2 2147483646 1 = true := by kernel_rfl
theorem zz_2_2_2147483646_2 : heads4 2 2 2147483646 2 = true := by kernel_rfl
theorem zz_2_2_2147483645_0 : heads4 2 2 2147483645 0 = true := by kernel_rfl
theorem zz_2_2_2147483645_1 : heads4 2 2 2147483645 1 = true := by kernel_rfl
theorem zz_2_2_2147483645_2 : heads4 2 2 2147483645 2 = true := by kernel_rfl
theorem zz_2_3_0_0 : heads4 2 3 0 0 = true := by kernel_rfl
theorem zz_2_3_0_1 : heads4 2 3 0 1 = true := by kernel_rfl
theorem zz_2_3_0_2 : heads4 2 3 0 2 = true := by kernel_rfl
theorem zz_2_3_0_9 : heads4 2 3 0 9 = true := by kernel_rfl
theorem zz_2_3_0_10 : heads4 2 3 0 10 = true := by kernel_rfl
theorem zz_2_3_0_99 : heads4 2 3 0 99 = true := by kernel_rfl
theorem zz_2_3_0_100 : heads4 2 3 0 100 = true := by kernel_rfl
theorem zz_2_3_0_2147483646 : heads4 2 3 0 2147483646 = true := by kernel_rfl
theorem zz_2_3_0_2147483645 : heads4 2 3 0 2147483645 = true := by kernel_rfl
theorem zz_2_3_1_0 : heads4 2 3 1 0 = true := by kernel_rfl
theorem zz_2_3_1_1 : heads4 2 3 1 1 = true := by kernel_rfl
theorem zz_2_3_1_2 : heads4 2 3 1 2 = true := by kernel_rfl
theorem zz_2_3_1_9 : heads4 2 3 1 9 = true := by kernel_rfl
theorem zz_2_3_1_10 : heads4 2 3 1 10 = true := by kernel_rfl
theorem zz_2_3_1_99 : heads4 2 3 1 99 = true := by kernel_rfl
theorem zz_2_3_1_100 : heads4 2 3 1 100 = true := by kernel_rfl
theorem zz_2_3_1_2147483646 : heads4 2 3 1 2147483646 = true := by kernel_rfl
theorem zz_2_3_1_2147483645 : heads4 2 3 1 2147483645 = true := by kernel_rfl
theorem zz_2_3_2_0 : heads4 2 3 2 0 = true := by kernel_rfl
theorem zz_2_3_2_1 : heads4 2 3 2 1 = true := by kernel_rfl
theorem zz_2_3_2_2 : heads4 2 3 2 2 = true := by kernel_rfl
theorem zz_2_3_2_9 : heads4 2 3 2 9 = true := by kernel_rfl
theorem zz_2_3_2_10 : heads4 2 3 2 10 = true := by kernel_rfl
theorem zz_2_3_2_99 : heads4 2 3 2 99 = true := by kernel_rfl
theorem zz_2_3_2_100 : heads4 2 3 2 100 = true := by kernel_rfl
theorem zz_2_3_2_2147483646 : heads4 2 3 2 2147483646 = true := by kernel_rfl
theorem zz_2_3_2_2147483645 : heads4 2 3 2 2147483645 = true := by kernel_rfl
theorem zz_2_3_9_0 : heads4 2 3 9 0 = true := by kernel_rfl
theorem zz_2_3_9_1 : heads4 2 3 9 1 = true := by kernel_rfl
theorem zz_2_3_9_2 : heads4 2 3 9 2 = true := by kernel_rfl
theorem zz_2_3_10_0 : heads4 2 3 10 0 = true := by kernel_rfl
theorem zz_2_3_10_1 : heads4 2 3 10 1 = true := by kernel_rfl
theorem zz_2_3_10_2 : heads4 2 3 10 2 = true := by kernel_rfl
theorem zz_2_3_99_0 : heads4 2 3 99 0 = true := by kernel_rfl
theorem zz_2_3_99_1 : heads4 2 3 99 1 = true := by kernel_rfl
theorem zz_2_3_99_2 : heads4 2 3 99 2 = true := by kernel_rfl
theorem zz_2_3_100_0 : heads4 2 3 100 0 = true := by kernel_rfl
theorem zz_2_3_100_1 : heads4 2 3 100 1 = true := by kernel_rfl
theorem zz_2_3_100_2 : heads4 2 3 100 2 = true := by kernel_rfl
theorem zz_2_3_2147483646_0 : heads4 2 3 2147483646 0 = true := by kernel_rfl
theorem zz_2_3_2147483646_1 : heads4 2 3 2147483646 1 = true := by kernel_rfl
theorem zz_2_3_2147483646_2 : heads4 2 3 2147483646 2 = true := by kernel_rfl
theorem zz_2_3_2147483645_0 : heads4 2 3 2147483645 0 = true := by kernel_rfl
theorem zz_2_3_2147483645_1 : heads4 2 3 2147483645 1 = true := by kernel_rfl
theorem zz_2_3_2147483645_2 : heads4 2 3 2147483645 2 = true := by kernel_rfl
theorem zz_2_9_0_0 : heads4 2 9 0 0 = true := by kernel_rfl
theorem zz_2_9_0_1 : heads4 2 9 0 1 = true := by kernel_rfl
theorem zz_2_9_0_2 : heads4 2 9 0 2 = true := by kernel_rfl
theorem zz_2_9_1_0 : heads4 2 9 1 0 = true := by kernel_rfl
theorem zz_2_9_1_1 : heads4 2 9 1 1 = true := by kernel_rfl
theorem zz_2_9_1_2 : heads4 2 9 1 2 = true := by kernel_rfl
theorem zz_2_9_2_0 : heads4 2 9 2 0 = true := by kernel_rfl
theorem zz_2_9_2_1 : heads4 2 9 2 1 = true := by kernel_rfl
theorem zz_2_9_2_2 : heads4 2 9 2 2 = true := by kernel_rfl
theorem zz_2_10_0_0 : heads4 2 10 0 0 = true := by kernel_rfl
theorem zz_2_10_0_1 : heads4 2 10 0 1 = true := by kernel_rfl
theorem zz_2_10_0_2 : heads4 2 10 0 2 = true := by kernel_rfl
theorem zz_2_10_1_0 : heads4 2 10 1 0 = true := by kernel_rfl
theorem zz_2_10_1_1 : heads4 2 10 1 1 = true := by kernel_rfl
theorem zz_2_10_1_2 : heads4 2 10 1 2 = true := by kernel_rfl
theorem zz_2_10_2_0 : heads4 2 10 2 0 = true := by kernel_rfl
theorem zz_2_10_2_1 : heads4 2 10 2 1 = true := by kernel_rfl
theorem zz_2_10_2_2 : heads4 2 10 2 2 = true := by kernel_rfl
theorem zz_2_99_0_0 : heads4 2 99 0 0 = true := by kernel_rfl
theorem zz_2_99_0_1 : heads4 2 99 0 1 = true := by kernel_rfl
theorem zz_2_99_0_2 : heads4 2 99 0 2 = true := by kernel_rfl
theorem zz_2_99_1_0 : heads4 2 99 1 0 = true := by kernel_rfl
theorem zz_2_99_1_1 : heads4 2 99 1 1 = true := by kernel_rfl
theorem zz_2_99_1_2 : heads4 2 99 1 2 = true := by kernel_rfl
theorem zz_2_99_2_0 : heads4 2 99 2 0 = true := by kernel_rfl
theorem zz_2_99_2_1 : heads4 2 99 2 1 = true := by kernel_rfl
theorem zz_2_99_2_2 : heads4 2 99 2 2 = true := by kernel_rfl
theorem zz_2_100_0_0 : heads4 2 100 0 0 = true := by kernel_rfl
theorem zz_2_100_0_1 : heads4 2 100 0 1 = true := by kernel_rfl
theorem zz_2_100_0_2 : heads4 2 100 0 2 = true := by kernel_rfl
theorem zz_2_100_1_0 : heads4 2 100 1 0 = true := by kernel_rfl
theorem zz_2_100_1_1 : heads4 2 100 1 1 = true := by kernel_rfl
theorem zz_2_100_1_2 : heads4 2 100 1 2 = true := by kernel_rfl
theorem zz_2_100_2_0 : heads4 2 100 2 0 = true := by kernel_rfl
theorem zz_2_100_2_1 : heads4 2 100 2 1 = true := by kernel_rfl
theorem zz_2_100_2_2 : heads4 2 100 2 2 = true := by kernel_rfl
theorem zz_2_2147483646_0_0 : heads4 2 2147483646 0 0 = true := by kernel_rfl
theorem zz_2_2147483646_0_1 : heads4 2 2147483646 0 1 = true := by kernel_rfl
theorem zz_2_2147483646_0_2 : heads4 2 2147483646 0 2 = true := by kernel_rfl
theorem zz_2_2147483646_1_0 : heads4 2 2147483646 1 0 = true := by kernel_rfl
theorem zz_2_2147483646_1_1 : heads4 2 2147483646 1 1 = true := by kernel_rfl
theorem zz_2_2147483646_1_2 : heads4 2 2147483646 1 2 = true := by kernel_rfl
theorem zz_2_2147483646_2_0 : heads4 2 2147483646 2 0 = true := by kernel_rfl
theorem zz_2_2147483646_2_1 : heads4 2 2147483646 2 1 = true := by kernel_rfl
theorem zz_2_2147483646_2_2 : heads4 2 2147483646 2 2 = true := by kernel_rfl
theorem zz_2_2147483645_0_0 : heads4 2 2147483645 0 0 = true := by kernel_rfl
theorem zz_2_2147483645_0_1 : heads4 2 2147483645 0 1 = true := by kernel_rfl
theorem zz_2_2147483645_0_2 : heads4 2 2147483645 0 2 = true := by kernel_rfl
theorem zz_2_2147483645_1_0 : heads4 2 2147483645 1 0 = true := by kernel_rfl
theorem zz_2_2147483645_1_1 : heads4 2 2147483645 1 1 = true := by kernel_rfl
theorem zz_2_2147483645_1_2 : heads4 2 2147483645 1 2 = true := by kernel_rfl
theorem zz_2_2147483645_2_0 : heads4 2 2147483645 2 0 = true := by kernel_rfl
theorem zz_2_2147483645_2_1 : heads4 2 2147483645 2 1 = true := by kernel_rfl
theorem zz_2_2147483645_2_2 : heads4 2 2147483645 2 2 = true := by kernel_rfl
theorem zz_kinds : ([0, 3, 4, 5].all fun k => heads4 k 0 0 0) = true := by kernel_rfl
theorem zz_tails : ([1, 2].all fun k => heads3 k 0 0 0) = true := by kernel_rfl
theorem zz_seven : ([1, 2, 4].all fun k => headG k 0 0 0 0 7 [[1, 2, 3, 4, 5, 6, 7]]) = true := by kernel_rfl
theorem zz_seven3 : ([1, 2, 3].all fun h => [0, 1, 2].all fun a => [0, 1, 2].all fun q => headG 3 h a q 0 7 [[1, 2, 3, 4, 5, 6, 7]]) = true := by kernel_rfl
theorem zz_one4 : headG 4 0 0 0 0 1 tails3 = true := by kernel_rfl
theorem zz_one3 : ([1, 2, 3].all fun h => [0, 1, 2].all fun a => [0, 1, 2].all fun q => headG 3 h a q 0 1 tails3) = true := by kernel_rfl
theorem zz_none27 : ([0, 3, 4, 5].all fun k => [1, 2, 3].all fun h => [0, 1, 2].all fun a => [0, 1, 2].all fun q => headG k h a q 0 0 [[]]) = true := by kernel_rfl
theorem zz_none : ([3, 4].all fun k => hsR.all fun h => (pasR h).all fun a => (qsR h a).all fun q => headG k h a q 0 0 [[]]) = true := by kernel_rfl
theorem zz_all {k h a q : Nat} (hk : k = 1 ∨ k = 2) (hh : h ∈ hsR) (ha : a ∈ pasR h) (hq : q ∈ qsR h a) : heads4 k h a q = true := by
  simp only [hsR, List.mem_cons, List.not_mem_nil, or_false] at hh
  rcases hk with rfl | rfl
  · rcases hh with rfl | rfl | rfl | rfl | rfl | rfl | rfl | rfl | rfl | rfl
    · have ha : a ∈ ([0, 1, 2] : List Nat) := ha
      simp only [List.mem_cons, List.not_mem_nil, or_false] at ha
      rcases ha with rfl | rfl | rfl
      · have hq : q ∈ ([0, 1, 2] : List Nat) := hq
        simp only [List.mem_cons, List.not_mem_nil, or_false] at hq
        rcases hq with rfl | rfl | rfl
        · exact zz_1_0_0_0
        · exact zz_1_0_0_1
        · exact zz_1_0_0_2
      · have hq : q ∈ ([0, 1, 2] : List Nat) := hq
        simp only [List.mem_cons, List.not_mem_nil, or_false] at hq
        rcases hq with rfl | rfl | rfl
        · exact zz_1_0_1_0
        · exact zz_1_0_1_1
        · exact zz_1_0_1_2
      · have hq : q ∈ ([0, 1, 2] : List Nat) := hq
        simp only [List.mem_cons, List.not_mem_nil, or_false] at hq
        rcases hq with rfl | rfl | rfl
        · exact zz_1_0_2_0
        · exact zz_1_0_2_1
        · exact zz_1_0_2_2
    · have ha : a ∈ ([0, 1, 2, 9, 10, 99, 100, 2147483646, 2147483645] : List Nat) := ha
      simp only [List.mem_cons, List.not_mem_nil, or_false] at ha
      rcases ha with rfl | rfl | rfl | rfl | rfl | rfl | rfl | rfl | rfl
      · have hq : q ∈ ([0, 1, 2, 9, 10, 99, 100, 2147483646, 2147483645] : List Nat) := hq
        simp only [List.mem_cons, List.not_mem_nil, or_false] at hq
        rcases hq with rfl | rfl | rfl | rfl | rfl | rfl | rfl | rfl | rfl
        · exact zz_1_1_0_0
        · exact zz_1_1_0_1
        · exact zz_1_1_0_2
        · exact zz_1_1_0_9
        · exact zz_1_1_0_10
        · exact zz_1_1_0_99
        · exact zz_1_1_0_100
        · exact zz_1_1_0_2147483646
        · exact zz_1_1_0_2147483645
      · have hq : q ∈ ([0, 1, 2, 9, 10, 99, 100, 2147483646, 2147483645] : List Nat) := hq
        simp only [List.mem_cons, List.not_mem_nil, or_false] at hq
        rcases hq with rfl | rfl | rfl | rfl | rfl | rfl | rfl | rfl | rfl
        · exact zz_1_1_1_0
        · exact zz_1_1_1_1
        · exact zz_1_1_1_2
        · exact zz_1_1_1_9
        · exact zz_1_1_1_10
        · exact zz_1_1_1_99
        · exact zz_1_1_1_100
        · exact zz_1_1_1_2147483646
        · exact zz_1_1_1_2147483645
      · have hq : q ∈ ([0, 1, 2, 9, 10, 99, 100, 2147483646, 2147483645] : List Nat) := hq
        simp only [List.mem_cons, List.not_mem_nil, or_false] at hq
        rcases hq with rfl | rfl | rfl | rfl | rfl | rfl | rfl | rfl | rfl
        · exact zz_1_1_2_0
        · exact zz_1_1_2_1
        · exact zz_1_1_2_2
        · exact zz_1_1_2_9
        · exact zz_1_1_2_10
        · exact zz_1_1_2_99
        · exact zz_1_1_2_100
        · exact zz_1_1_2_2147483646
        · exact zz_1_1_2_2147483645
      · have hq : q ∈ ([0, 1, 2] : List Nat) := hq
        simp only [List.mem_cons, List.not_mem_nil, or_false] at hq
        rcases hq with rfl | rfl | rfl
        · exact zz_1_1_9_0
        · exact zz_1_1_9_1
        · exact zz_1_1_9_2
      · have hq : q ∈ ([0, 1, 2] : List Nat) := hq
        simp only [List.mem_cons, List.not_mem_nil, or_false] at hq
        rcases hq with rfl | rfl | rfl
        · exact zz_1_1_10_0
        · exact zz_1_1_10_1
        · exact zz_1_1_10_2
      · have hq : q ∈ ([0, 1, 2] : List Nat) := hq
        simp only [List.mem_cons, List.not_mem_nil, or_false] at hq
        rcases hq with rfl | rfl | rfl
        · exact zz_1_1_99_0
        · exact zz_1_1_99_1
        · exact zz_1_1_99_2
      · have hq : q ∈ ([0, 1, 2] : List Nat) := hq
        simp only [List.mem_cons, List.not_mem_nil, or_false] at hq
        rcases hq with rfl | rfl | rfl
        · exact zz_1_1_100_0
        · exact zz_1_1_100_1
        · exact zz_1_1_100_2
      · have hq : q ∈ ([0, 1, 2] : List Nat) := hq
        simp only [List.mem_cons, List.not_mem_nil, or_false] at hq
        rcases hq with rfl | rfl | rfl
        · exact zz_1_1_2147483646_0
        · exact zz_1_1_2147483646_1
        · exact zz_1_1_2147483646_2
      · have hq : q ∈ ([0, 1, 2] : List Nat) := hq
        simp only [List.mem_cons, List.not_mem_nil, or_false] at hq
        rcases hq with rfl | rfl | rfl
        · exact zz_1_1_2147483645_0
        · exact zz_1_1_2147483645_1
        · exact zz_1_1_2147483645_2
    · have ha : a ∈ ([0, 1, 2, 9, 10, 99, 100, 2147483646, 2147483645] : List Nat) := ha
      simp only [List.mem_cons, List.not_mem_nil, or_false] at ha
      rcases ha with rfl | rfl | rfl | rfl | rfl | rfl | rfl | rfl | rfl
      · have hq : q ∈ ([0, 1, 2, 9, 10, 99, 100, 2147483646, 2147483645] : List Nat) := hq
        simp only [List.mem_cons, List.not_mem_nil, or_false] at hq
        rcases hq with rfl | rfl | rfl | rfl | rfl | rfl | rfl | rfl | rfl
        · exact zz_1_2_0_0
        · exact zz_1_2_0_1
        · exact zz_1_2_0_2
        · exact zz_1_2_0_9
        · exact zz_1_2_0_10
        · exact zz_1_2_0_99
        · exact zz_1_2_0_100
        · exact zz_1_2_0_2147483646
        · exact zz_1_2_0_2147483645
      · have hq : q ∈ ([0, 1, 2, 9, 10, 99, 100, 2147483646, 2147483645] : List Nat) := hq
        simp only [List.mem_cons, List.not_mem_nil, or_false] at hq
        rcases hq with rfl | rfl | rfl | rfl | rfl | rfl | rfl | rfl | rfl
        · exact zz_1_2_1_0
        · exact zz_1_2_1_1
        · exact zz_1_2_1_2
        · exact zz_1_2_1_9
        · exact zz_1_2_1_10
        · exact zz_1_2_1_99
        · exact zz_1_2_1_100
        · exact zz_1_2_1_2147483646
        · exact zz_1_2_1_2147483645
      · have hq : q ∈ ([0, 1, 2, 9, 10, 99, 100, 2147483646, 2147483645] : List Nat) := hq
        simp only [List.mem_cons, List.not_mem_nil, or_false] at hq
        rcases hq with rfl | rfl | rfl | rfl | rfl | rfl | rfl | rfl | rfl
        · exact zz_1_2_2_0
        · exact zz_1_2_2_1
        · exact zz_1_2_2_2
        · exact zz_1_2_2_9
        · exact zz_1_2_2_10
        · exact zz_1_2_2_99
        · exact zz_1_2_2_100
        · exact zz_1_2_2_2147483646
        · exact zz_1_2_2_2147483645
      · have hq : q ∈ ([0, 1, 2] : List Nat) := hq
        simp only [List.mem_cons, List.not_mem_nil, or_false] at hq
        rcases hq with rfl | rfl | rfl
        · exact zz_1_2_9_0
        · exact zz_1_2_9_1
        · exact zz_1_2_9_2
      · have hq : q ∈ ([0, 1, 2] : List Nat) := hq
        simp only [List.mem_cons, List.not_mem_nil, or_false] at hq
        rcases hq with rfl | rfl | rfl
        · exact zz_1_2_10_0
        · exact zz_1_2_10_1
        · exact zz_1_2_10_2
      · have hq : q ∈ ([0, 1, 2] : List Nat) := hq
        simp only [List.mem_cons, List.not_mem_nil, or_false] at hq
        rcases hq with rfl | rfl | rfl
        · exact zz_1_2_99_0
        · exact zz_1_2_99_1
        · exact zz_1_2_99_2
      · have hq : q ∈ ([0, 1, 2] : List Nat) := hq
        simp only [List.mem_cons, List.not_mem_nil, or_false] at hq
        rcases hq with rfl | rfl | rfl
        · exact zz_1_2_100_0
        · exact zz_1_2_100_1
        · exact zz_1_2_100_2
      · have hq : q ∈ ([0, 1, 2] : List Nat) := hq
        simp only [List.mem_cons, List.not_mem_nil, or_false] at hq
        rcases hq with rfl | rfl | rfl
        · exact zz_1_2_2147483646_0
        · exact zz_1_2_2147483646_1
        · exact zz_1_2_2147483646_2
      · have hq : q ∈ ([0, 1, 2] : List Nat) := hq
        simp only [List.mem_cons, List.not_mem_nil, or_false] at hq
        rcases hq with rfl | rfl | rfl
        · exact zz_1_2_2147483645_0
        · exact zz_1_2_2147483645_1
        · exact zz_1_2_2147483645_2
    · have ha : a ∈ ([0, 1, 2, 9, 10, 99, 100, 2147483646, 2147483645] : List Nat) := ha
      simp only [List.mem_cons, List.not_mem_nil, or_false] at ha
      rcases ha with rfl | rfl | rfl | rfl | rfl | rfl | rfl | rfl | rfl
      · have hq : q ∈ ([0, 1, 2, 9, 10, 99, 100, 2147483646, 2147483645] : List Nat) := hq
        simp only [List.mem_cons, List.not_mem_nil, or_false] at hq
        rcases hq with rfl | rfl | rfl | rfl | rfl | rfl | rfl | rfl | rfl
        · exact zz_1_3_0_0
        · exact zz_1_3_0_1
        · exact zz_1_3_0_2
        · exact zz_1_3_0_9
        · exact zz_1_3_0_10
        · exact zz_1_3_0_99
        · exact zz_1_3_0_100
        · exact zz_1_3_0_2147483646
        · exact zz_1_3_0_2147483645
      · have hq : q ∈ ([0, 1, 2, 9, 10, 99, 100, 2147483646, 2147483645] : List Nat) := hq
        simp only [List.mem_cons, List.not_mem_nil, or_false] at hq
        rcases hq with rfl | rfl | rfl | rfl | rfl | rfl | rfl | rfl | rfl
        · exact zz_1_3_1_0
        · exact zz_1_3_1_1
        · exact zz_1_3_1_2
        · exact zz_1_3_1_9
        · exact zz_1_3_1_10
        · exact zz_1_3_1_99
        · exact zz_1_3_1_100
        · exact zz_1_3_1_2147483646
        · exact zz_1_3_1_2147483645
      · have hq : q ∈ ([0, 1, 2, 9, 10, 99, 100, 2147483646, 2147483645] : List Nat) := hq
        simp only [List.mem_cons, List.not_mem_nil, or_false] at hq
        rcases hq with rfl | rfl | rfl | rfl | rfl | rfl | rfl | rfl | rfl
        · exact zz_1_3_2_0
        · exact zz_1_3_2_1
        · exact zz_1_3_2_2
        · exact zz_1_3_2_9
        · exact zz_1_3_2_10
        · exact zz_1_3_2_99
        · exact zz_1_3_2_100
        · exact zz_1_3_2_2147483646
        · exact zz_1_3_2_2147483645
      · have hq : q ∈ ([0, 1, 2] : List Nat) := hq
        simp only [List.mem_cons, List.not_mem_nil, or_false] at hq
        rcases hq with rfl | rfl | rfl
        · exact zz_1_3_9_0
        · exact zz_1_3_9_1
        · exact zz_1_3_9_2
      · have hq : q ∈ ([0, 1, 2] : List Nat) := hq
        simp only [List.mem_cons, List.not_mem_nil, or_false] at hq
        rcases hq with rfl | rfl | rfl
        · exact zz_1_3_10_0
        · exact zz_1_3_10_1
        · exact zz_1_3_10_2
      · have hq : q ∈ ([0, 1, 2] : List Nat) := hq
        simp only [List.mem_cons, List.not_mem_nil, or_false] at hq
        rcases hq with rfl | rfl | rfl
        · exact zz_1_3_99_0
        · exact zz_1_3_99_1
        · exact zz_1_3_99_2
      · have hq : q ∈ ([0, 1, 2] : List Nat) := hq
        simp only [List.mem_cons, List.not_mem_nil, or_false] at hq
        rcases hq with rfl | rfl | rfl
        · exact zz_1_3_100_0
        · exact zz_1_3_100_1
        · exact zz_1_3_100_2
      · have hq : q ∈ ([0, 1, 2] : List Nat) := hq
        simp only [List.mem_cons, List.not_mem_nil, or_false] at hq
        rcases hq with rfl | rfl | rfl
        · exact zz_1_3_2147483646_0
        · exact zz_1_3_2147483646_1
        · exact zz_1_3_2147483646_2
      · have hq : q ∈ ([0, 1, 2] : List Nat) := hq
        simp only [List.mem_cons, List.not_mem_nil, or_false] at hq
        rcases hq with rfl | rfl | rfl
        · exact zz_1_3_2147483645_0
        · exact zz_1_3_2147483645_1
        · exact zz_1_3_2147483645_2
    · have ha : a ∈ ([0, 1, 2] : List Nat) := ha
      simp only [List.mem_cons, List.not_mem_nil, or_false] at ha
      rcases ha with rfl | rfl | rfl
      · have hq : q ∈ ([0, 1, 2] : List Nat) := hq
        simp only [List.mem_cons, List.not_mem_nil, or_false] at hq
        rcases hq with rfl | rfl | rfl
        · exact zz_1_9_0_0
        · exact zz_1_9_0_1
        · exact zz_1_9_0_2
      · have hq : q ∈ ([0, 1, 2] : List Nat) := hq
        simp only [List.mem_cons, List.not_mem_nil, or_false] at hq
        rcases hq with rfl | rfl | rfl
        · exact zz_1_9_1_0
        · exact zz_1_9_1_1
        · exact zz_1_9_1_2
      · have hq : q ∈ ([0, 1, 2] : List Nat) := hq
        simp only [List.mem_cons, List.not_mem_nil, or_false] at hq
        rcases hq with rfl | rfl | rfl
        · exact zz_1_9_2_0
        · exact zz_1_9_2_1
        · exact zz_1_9_2_2
    · have ha : a ∈ ([0, 1, 2] : List Nat) := ha
      simp only [List.mem_cons, List.not_mem_nil, or_false] at ha
      rcases ha with rfl | rfl | rfl
      · have hq : q ∈ ([0, 1, 2] : List Nat) := hq
        simp only [List.mem_cons, List.not_mem_nil, or_false] at hq
        rcases hq with rfl | rfl | rfl
        · exact zz_1_10_0_0
        · exact zz_1_10_0_1
        · exact zz_1_10_0_2
      · have hq : q ∈ ([0, 1, 2] : List Nat) := hq
        simp only [List.mem_cons, List.not_mem_nil, or_false] at hq
        rcases hq with rfl | rfl | rfl
        · exact zz_1_10_1_0
        · exact zz_1_10_1_1
        · exact zz_1_10_1_2
      · have hq : q ∈ ([0, 1, 2] : List Nat) := hq
        simp only [List.mem_cons, List.not_mem_nil, or_false] at hq
        rcases hq with rfl | rfl | rfl
        · exact zz_1_10_2_0
        · exact zz_1_10_2_1
        · exact zz_1_10_2_2
    · have ha : a ∈ ([0, 1, 2] : List Nat) := ha
      simp only [List.mem_cons, List.not_mem_nil, or_false] at ha
      rcases ha with rfl | rfl | rfl
      · have hq : q ∈ ([0, 1, 2] : List Nat) := hq
        simp only [List.mem_cons, List.not_mem_nil, or_false] at hq
        rcases hq with rfl | rfl | rfl
        · exact zz_1_99_0_0
        · exact zz_1_99_0_1
        · exact zz_1_99_0_2
      · have hq : q ∈ ([0, 1, 2] : List Nat) := hq
        simp only [List.mem_cons, List.not_mem_nil, or_false] at hq
        rcases hq with rfl | rfl | rfl
        · exact zz_1_99_1_0
        · exact zz_1_99_1_1
        · exact zz_1_99_1_2
      · have hq : q ∈ ([0, 1, 2] : List Nat) := hq
        simp only [List.mem_cons, List.not_mem_nil, or_false] at hq
        rcases hq with rfl | rfl | rfl
        · exact zz_1_99_2_0
        · exact zz_1_99_2_1
        · exact zz_1_99_2_2
    · have ha : a ∈ ([0, 1, 2] : List Nat) := ha
      simp only [List.mem_cons, List.not_mem_nil, or_false] at ha
      rcases ha with rfl | rfl | rfl
      · have hq : q ∈ ([0, 1, 2] : List Nat) := hq
        simp only [List.mem_cons, List.not_mem_nil, or_false] at hq
        rcases hq with rfl | rfl | rfl
        · exact zz_1_100_0_0
        · exact zz_1_100_0_1
        · exact zz_1_100_0_2
      · have hq : q ∈ ([0, 1, 2] : List Nat) := hq
        simp only [List.mem_cons, List.not_mem_nil, or_false] at hq
        rcases hq with rfl | rfl | rfl
        · exact zz_1_100_1_0
        · exact zz_1_100_1_1
        · exact zz_1_100_1_2
      · have hq : q ∈ ([0, 1, 2] : List Nat) := hq
        simp only [List.mem_cons, List.not_mem_nil, or_false] at hq
        rcases hq with rfl | rfl | rfl
        · exact zz_1_100_2_0
        · exact zz_1_100_2_1
        · exact zz_1_100_2_2
    · have ha : a ∈ ([0, 1, 2] : List Nat) := ha
      simp only [List.mem_cons, List.not_mem_nil, or_false] at ha
      rcases ha with rfl | rfl | rfl
      · have hq : q ∈ ([0, 1, 2] : List Nat) := hq
        simp only [List.mem_cons, List.not_mem_nil, or_false] at hq
        rcases hq with rfl | rfl | rfl
        · exact zz_1_2147483646_0_0
        · exact zz_1_2147483646_0_1
        · exact zz_1_2147483646_0_2
      · have hq : q ∈ ([0, 1, 2] : List Nat) := hq
        simp only [List.mem_cons, List.not_mem_nil, or_false] at hq
        rcases hq with rfl | rfl | rfl
        · exact zz_1_2147483646_1_0
        · exact zz_1_2147483646_1_1
        · exact zz_1_2147483646_1_2
      · have hq : q ∈ ([0, 1, 2] : List Nat) := hq
        simp only [List.mem_cons, List.not_mem_nil, or_false] at hq
        rcases hq with rfl | rfl | rfl
        · exact zz_1_2147483646_2_0
        · exact zz_1_2147483646_2_1
        · exact zz_1_2147483646_2_2
    · have ha : a ∈ ([0, 1, 2] : List Nat) := ha
      simp only [List.mem_cons, List.not_mem_nil, or_false] at ha
      rcases ha with rfl | rfl | rfl
      · have hq : q ∈ ([0, 1, 2] : List Nat) := hq
        simp only [List.mem_cons, List.not_mem_nil, or_false] at hq
        rcases hq with rfl | rfl | rfl
        · exact zz_1_2147483645_0_0
        · exact zz_1_2147483645_0_1
        · exact zz_1_2147483645_0_2
      · have hq : q ∈ ([0, 1, 2] : List Nat) := hq
        simp only [List.mem_cons, List.not_mem_nil, or_false] at hq
        rcases hq with rfl | rfl | rfl
        · exact zz_1_2147483645_1_0
        · exact zz_1_2147483645_1_1
        · exact zz_1_2147483645_1_2
      · have hq : q ∈ ([0, 1, 2] : List Nat) := hq
        simp only [List.mem_cons, List.not_mem_nil, or_false] at hq
        rcases hq with rfl | rfl | rfl
        · exact zz_1_2147483645_2_0
        · exact zz_1_2147483645_2_1
        · exact zz_1_2147483645_2_2
  · rcases hh with rfl | rfl | rfl | rfl | rfl | rfl | rfl | rfl | rfl | rfl
    · have ha : a ∈ ([0, 1, 2] : List Nat) := ha
      simp only [List.mem_cons, List.not_mem_nil, or_false] at ha
      rcases ha with rfl | rfl | rfl
      · have hq : q ∈ ([0, 1, 2] : List Nat) := hq
        simp only [List.mem_cons, List.not_mem_nil, or_false] at hq
        rcases hq with rfl | rfl | rfl
        · exact zz_2_0_0_0
        · exact zz_2_0_0_1
        · exact zz_2_0_0_2
      · have hq : q ∈ ([0, 1, 2] : List Nat) := hq
        simp only [List.mem_cons, List.not_mem_nil, or_false] at hq
        rcases hq with rfl | rfl | rfl
        · exact zz_2_0_1_0
        · exact zz_2_0_1_1
        · exact zz_2_0_1_2
      · have hq : q ∈ ([0, 1, 2] : List Nat) := hq
        simp only [List.mem_cons, List.not_mem_nil, or_false] at hq
        rcases hq with rfl | rfl | rfl
        · exact zz_2_0_2_0
        · exact zz_2_0_2_1
        · exact zz_2_0_2_2
    · have ha : a ∈ ([0, 1, 2, 9, 10, 99, 100, 2147483646, 2147483645] : List Nat) := ha
      simp only [List.mem_cons, List.not_mem_nil, or_false] at ha
      rcases ha with rfl | rfl | rfl | rfl | rfl | rfl | rfl | rfl | rfl
      · have hq : q ∈ ([0, 1, 2, 9, 10, 99, 100, 2147483646, 2147483645] : List Nat) := hq
        simp only [List.mem_cons, List.not_mem_nil, or_false] at hq
        rcases hq with rfl | rfl | rfl | rfl | rfl | rfl | rfl | rfl | rfl
        · exact zz_2_1_0_0
        · exact zz_2_1_0_1
        · exact zz_2_1_0_2
        · exact zz_2_1_0_9
        · exact zz_2_1_0_10
        · exact zz_2_1_0_99
        · exact zz_2_1_0_100
        · exact zz_2_1_0_2147483646
        · exact zz_2_1_0_2147483645
      · have hq : q ∈ ([0, 1, 2, 9, 10, 99, 100, 2147483646, 2147483645] : List Nat) := hq
        simp only [List.mem_cons, List.not_mem_nil, or_false] at hq
        rcases hq with rfl | rfl | rfl | rfl | rfl | rfl | rfl | rfl | rfl
        · exact zz_2_1_1_0
        · exact zz_2_1_1_1
        · exact zz_2_1_1_2
        · exact zz_2_1_1_9
        · exact zz_2_1_1_10
        · exact zz_2_1_1_99
        · exact zz_2_1_1_100
        · exact zz_2_1_1_2147483646
        · exact zz_2_1_1_2147483645
      · have hq : q ∈ ([0, 1, 2, 9, 10, 99, 100, 2147483646, 2147483645] : List Nat) := hq
        simp only [List.mem_cons, List.not_mem_nil, or_false] at hq
        rcases hq with rfl | rfl | rfl | rfl | rfl | rfl | rfl | rfl | rfl
        · exact zz_2_1_2_0
        · exact zz_2_1_2_1
        · exact zz_2_1_2_2
        · exact zz_2_1_2_9
        · exact zz_2_1_2_10
        · exact zz_2_1_2_99
        · exact zz_2_1_2_100
        · exact zz_2_1_2_2147483646
        · exact zz_2_1_2_2147483645
      · have hq : q ∈ ([0, 1, 2] : List Nat) := hq
        simp only [List.mem_cons, List.not_mem_nil, or_false] at hq
        rcases hq with rfl | rfl | rfl
        · exact zz_2_1_9_0
        · exact zz_2_1_9_1
        · exact zz_2_1_9_2
      · have hq : q ∈ ([0, 1, 2] : List Nat) := hq
        simp only [List.mem_cons, List.not_mem_nil, or_false] at hq
        rcases hq with rfl | rfl | rfl
        · exact zz_2_1_10_0
        · exact zz_2_1_10_1
        · exact zz_2_1_10_2
      · have hq : q ∈ ([0, 1, 2] : List Nat) := hq
        simp only [List.mem_cons, List.not_mem_nil, or_false] at hq
        rcases hq with rfl | rfl | rfl
        · exact zz_2_1_99_0
        · exact zz_2_1_99_1
        · exact zz_2_1_99_2
      · have hq : q ∈ ([0, 1, 2] : List Nat) := hq
        simp only [List.mem_cons, List.not_mem_nil, or_false] at hq
        rcases hq with rfl | rfl | rfl
        · exact zz_2_1_100_0
        · exact zz_2_1_100_1
        · exact zz_2_1_100_2
      · have hq : q ∈ ([0, 1, 2] : List Nat) := hq
        simp only [List.mem_cons, List.not_mem_nil, or_false] at hq
        rcases hq with rfl | rfl | rfl
        · exact zz_2_1_2147483646_0
        · exact zz_2_1_2147483646_1
        · exact zz_2_1_2147483646_2
      · have hq : q ∈ ([0, 1, 2] : List Nat) := hq
        simp only [List.mem_cons, List.not_mem_nil, or_false] at hq
        rcases hq with rfl | rfl | rfl
        · exact zz_2_1_2147483645_0
        · exact zz_2_1_2147483645_1
        · exact zz_2_1_2147483645_2
    · have ha : a ∈ ([0, 1, 2, 9, 10, 99, 100, 2147483646, 2147483645] : List Nat) := ha
      simp only [List.mem_cons, List.not_mem_nil, or_false] at ha
      rcases ha with rfl | rfl | rfl | rfl | rfl | rfl | rfl | rfl | rfl
      · have hq : q ∈ ([0, 1, 2, 9, 10, 99, 100, 2147483646, 2147483645] : List Nat) := hq
        simp only [List.mem_cons, List.not_mem_nil, or_false] at hq
        rcases hq with rfl | rfl | rfl | rfl | rfl | rfl | rfl | rfl | rfl
        · exact zz_2_2_0_0
        · exact zz_2_2_0_1
        · exact zz_2_2_0_2
        · exact zz_2_2_0_9
        · exact zz_2_2_0_10
        · exact zz_2_2_0_99
        · exact zz_2_2_0_100
        · exact zz_2_2_0_2147483646
        · exact zz_2_2_0_2147483645
      · have hq : q ∈ ([0, 1, 2, 9, 10, 99, 100, 2147483646, 2147483645] : List Nat) := hq
        simp only [List.mem_cons, List.not_mem_nil, or_false] at hq
        rcases hq with rfl | rfl | rfl | rfl | rfl | rfl | rfl | rfl | rfl
        · exact zz_2_2_1_0
        · exact zz_2_2_1_1
        · exact zz_2_2_1_2
        · exact zz_2_2_1_9
        · exact zz_2_2_1_10
        · exact zz_2_2_1_99
        · exact zz_2_2_1_100
        · exact zz_2_2_1_2147483646
        · exact zz_2_2_1_2147483645
      · have hq : q ∈ ([0, 1, 2, 9, 10, 99, 100, 2147483646, 2147483645] : List Nat) := hq
        simp only [List.mem_cons, List.not_mem_nil, or_false] at hq
        rcases hq with rfl | rfl | rfl | rfl | rfl | rfl | rfl | rfl | rfl
        · exact zz_2_2_2_0
        · exact zz_2_2_2_1
        · exact zz_2_2_2_2
        · exact zz_2_2_2_9
        · exact zz_2_2_2_10
        · exact zz_2_2_2_99
        · exact zz_2_2_2_100
        · exact zz_2_2_2_2147483646
        · exact zz_2_2_2_2147483645
      · have hq : q ∈ ([0, 1, 2] : List Nat) := hq
        simp only [List.mem_cons, List.not_mem_nil, or_false] at hq
        rcases hq with rfl | rfl | rfl
        · exact zz_2_2_9_0
        · exact zz_2_2_9_1
        · exact zz_2_2_9_2
      · have hq : q ∈ ([0, 1, 2] : List Nat) := hq
        simp only [List.mem_cons, List.not_mem_nil, or_false] at hq
        rcases hq with rfl | rfl | rfl
        · exact zz_2_2_10_0
        · exact zz_2_2_10_1
        · exact zz_2_2_10_2
      · have hq : q ∈ ([0, 1, 2] : List Nat) := hq
        simp only [List.mem_cons, List.not_mem_nil, or_false] at hq
        rcases hq with rfl | rfl | rfl
        · exact zz_2_2_99_0
        · exact zz_2_2_99_1
        · exact zz_2_2_99_2
      · have hq : q ∈ ([0, 1, 2] : List Nat) := hq
        simp only [List.mem_cons, List.not_mem_nil, or_false] at hq
        rcases hq with rfl | rfl | rfl
        · exact zz_2_2_100_0
        · exact zz_2_2_100_1
        · exact zz_2_2_100_2
      · have hq : q ∈ ([0, 1, 2] : List Nat) := hq
        simp only [List.mem_cons, List.not_mem_nil, or_false] at hq
        rcases hq with rfl | rfl | rfl
        · exact zz_2_2_2147483646_0
        · exact zz_2_2_2147483646_1
        · exact zz_2_2_2147483646_2
      · have hq : q ∈ ([0, 1, 2] : List Nat) := hq
        simp only [List.mem_cons, List.not_mem_nil, or_false] at hq
        rcases hq with rfl | rfl | rfl
        · exact zz_2_2_2147483645_0
        · exact zz_2_2_2147483645_1
        · exact zz_2_2_2147483645_2
    · have ha : a ∈ ([0, 1, 2, 9, 10, 99, 100, 2147483646, 2147483645] : List Nat) := ha
      simp only [List.mem_cons, List.not_mem_nil, or_false] at ha
      rcases ha with rfl | rfl | rfl | rfl | rfl | rfl | rfl | rfl | rfl
      · have hq : q ∈ ([0, 1, 2, 9, 10, 99, 100, 2147483646, 2147483645] : List Nat) := hq
        simp only [List.mem_cons, List.not_mem_nil, or_false] at hq
        rcases hq with rfl | rfl | rfl | rfl | rfl | rfl | rfl | rfl | rfl
        · exact zz_2_3_0_0
        · exact zz_2_3_0_1
        · exact zz_2_3_0_2
        · exact zz_2_3_0_9
        · exact zz_2_3_0_10
        · exact zz_2_3_0_99
        · exact zz_2_3_0_100
        · exact zz_2_3_0_2147483646
        · exact zz_2_3_0_2147483645
      · have hq : q ∈ ([0, 1, 2, 9, 10, 99, 100, 2147483646, 2147483645] : List Nat) := hq
        simp only [List.mem_cons, List.not_mem_nil, or_false] at hq
        rcases hq with rfl | rfl | rfl | rfl | rfl | rfl | rfl | rfl | rfl
        · exact zz_2_3_1_0
        · exact zz_2_3_1_1
        · exact zz_2_3_1_2
        · exact zz_2_3_1_9
        · exact zz_2_3_1_10
        · exact zz_2_3_1_99
        · exact zz_2_3_1_100
        · exact zz_2_3_1_2147483646
        · exact zz_2_3_1_2147483645
      · have hq : q ∈ ([0, 1, 2, 9, 10, 99, 100, 2147483646, 2147483645] : List Nat) := hq
        simp only [List.mem_cons, List.not_mem_nil, or_false] at hq
        rcases hq with rfl | rfl | rfl | rfl | rfl | rfl | rfl | rfl | rfl
        · exact zz_2_3_2_0
        · exact zz_2_3_2_1
        · exact zz_2_3_2_2
        · exact zz_2_3_2_9
        · exact zz_2_3_2_10
        · exact zz_2_3_2_99
        · exact zz_2_3_2_100
        · exact zz_2_3_2_2147483646
        · exact zz_2_3_2_2147483645
      · have hq : q ∈ ([0, 1, 2] : List Nat) := hq
        simp only [List.mem_cons, List.not_mem_nil, or_false] at hq
        rcases hq with rfl | rfl | rfl
        · exact zz_2_3_9_0
        · exact zz_2_3_9_1
        · exact zz_2_3_9_2
      · have hq : q ∈ ([0, 1, 2] : List Nat) := hq
        simp only [List.mem_cons, List.not_mem_nil, or_false] at hq
        rcases hq with rfl | rfl | rfl
        · exact zz_2_3_10_0
        · exact zz_2_3_10_1
        · exact zz_2_3_10_2
      · have hq : q ∈ ([0, 1, 2] : List Nat) := hq
        simp only [List.mem_cons, List.not_mem_nil, or_false] at hq
        rcases hq with rfl | rfl | rfl
        · exact zz_2_3_99_0
        · exact zz_2_3_99_1
        · exact zz_2_3_99_2
      · have hq : q ∈ ([0, 1, 2] : List Nat) := hq
        simp only [List.mem_cons, List.not_mem_nil, or_false] at hq
        rcases hq with rfl | rfl | rfl
        · exact zz_2_3_100_0
        · exact zz_2_3_100_1
        · exact zz_2_3_100_2
      · have hq : q ∈ ([0, 1, 2] : List Nat) := hq
        simp only [List.mem_cons, List.not_mem_nil, or_false] at hq
        rcases hq with rfl | rfl | rfl
        · exact zz_2_3_2147483646_0
        · exact zz_2_3_2147483646_1
        · exact zz_2_3_2147483646_2
      · have hq : q ∈ ([0, 1, 2] : List Nat) := hq
        simp only [List.mem_cons, List.not_mem_nil, or_false] at hq
        rcases hq with rfl | rfl | rfl
        · exact zz_2_3_2147483645_0
        · exact zz_2_3_2147483645_1
        · exact zz_2_3_2147483645_2
    · have ha : a ∈ ([0, 1, 2] : List Nat) := ha
      simp only [List.mem_cons, List.not_mem_nil, or_false] at ha
      rcases ha with rfl | rfl | rfl
      · have hq : q ∈ ([0, 1, 2] : List Nat) := hq
        simp only [List.mem_cons, List.not_mem_nil, or_false] at hq
        rcases hq with rfl | rfl | rfl
        · exact zz_2_9_0_0
        · exact zz_2_9_0_1
        · exact zz_2_9_0_2
      · have hq : q ∈ ([0, 1, 2] : List Nat) := hq
        simp only [List.mem_cons, List.not_mem_nil, or_false] at hq
        rcases hq with rfl | rfl | rfl
        · exact zz_2_9_1_0
        · exact zz_2_9_1_1
        · exact zz_2_9_1_2
      · have hq : q ∈ ([0, 1, 2] : List Nat) := hq
        simp only [List.mem_cons, List.not_mem_nil, or_false] at hq
        rcases hq with rfl | rfl | rfl
        · exact zz_2_9_2_0
        · exact zz_2_9_2_1
        · exact zz_2_9_2_2
    · have ha : a ∈ ([0, 1, 2] : List Nat) := ha
      simp only [List.mem_cons, List.not_mem_nil, or_false] at ha
      rcases ha with rfl | rfl | rfl
      · have hq : q ∈ ([0, 1, 2] : List Nat) := hq
        simp only [List.mem_cons, List.not_mem_nil, or_false] at hq
        rcases hq with rfl | rfl | rfl
        · exact zz_2_10_0_0
        · exact zz_2_10_0_1
        · exact zz_2_10_0_2
      · have hq : q ∈ ([0, 1, 2] : List Nat) := hq
        simp only [List.mem_cons, List.not_mem_nil, or_false] at hq
        rcases hq with rfl | rfl | rfl
        · exact zz_2_10_1_0
        · exact zz_2_10_1_1
        · exact zz_2_10_1_2
      · have hq : q ∈ ([0, 1, 2] : List Nat) := hq
        simp only [List.mem_cons, List.not_mem_nil, or_false] at hq
        rcases hq with rfl | rfl | rfl
        · exact zz_2_10_2_0
        · exact zz_2_10_2_1
        · exact zz_2_10_2_2
    · have ha : a ∈ ([0, 1, 2] : List Nat) := ha
      simp only [List.mem_cons, List.not_mem_nil, or_false] at ha
      rcases ha with rfl | rfl | rfl
      · have hq : q ∈ ([0, 1, 2] : List Nat) := hq
        simp only [List.mem_cons, List.not_mem_nil, or_false] at hq
        rcases hq with rfl | rfl | rfl
        · exact zz_2_99_0_0
        · exact zz_2_99_0_1
        · exact zz_2_99_0_2
      · have hq : q ∈ ([0, 1, 2] : List Nat) := hq
        simp only [List.mem_cons, List.not_mem_nil, or_false] at hq
        rcases hq with rfl | rfl | rfl
        · exact zz_2_99_1_0
        · exact zz_2_99_1_1
        · exact zz_2_99_1_2
      · have hq : q ∈ ([0, 1, 2] : List Nat) := hq
        simp only [List.mem_cons, List.not_mem_nil, or_false] at hq
        rcases hq with rfl | rfl | rfl
        · exact zz_2_99_2_0
        · exact zz_2_99_2_1
        · exact zz_2_99_2_2
    · have ha : a ∈ ([0, 1, 2] : List Nat) := ha
      simp only [List.mem_cons, List.not_mem_nil, or_false] at ha
      rcases ha with rfl | rfl | rfl
      · have hq : q ∈ ([0, 1, 2] : List Nat) := hq
        simp only [List.mem_cons, List.not_mem_nil, or_false] at hq
        rcases hq with rfl | rfl | rfl
        · exact zz_2_100_0_0
        · exact zz_2_100_0_1
        · exact zz_2_100_0_2
      · have hq : q ∈ ([0, 1, 2] : List Nat) := hq
        simp only [List.mem_cons, List.not_mem_nil, or_false] at hq
        rcases hq with rfl | rfl | rfl
        · exact zz_2_100_1_0
        · exact zz_2_100_1_1
        · exact zz_2_100_1_2
      · have hq : q ∈ ([0, 1, 2] : List Nat) := hq
        simp only [List.mem_cons, List.not_mem_nil, or_false] at hq
        rcases hq with rfl | rfl | rfl
        · exact zz_2_100_2_0
        · exact zz_2_100_2_1
        · exact zz_2_100_2_2
    · have ha : a ∈ ([0, 1, 2] : List Nat) := ha
      simp only [List.mem_cons, List.not_mem_nil, or_false] at ha
      rcases ha with rfl | rfl | rfl
      · have hq : q ∈ ([0, 1, 2] : List Nat) := hq
        simp only [List.mem_cons, List.not_mem_nil, or_false] at hq
        rcases hq with rfl | rfl | rfl
        · exact zz_2_2147483646_0_0
        · exact zz_2_2147483646_0_1
        · exact zz_2_2147483646_0_2
      · have hq : q ∈ ([0, 1, 2] : List Nat) := hq
        simp only [List.mem_cons, List.not_mem_nil, or_false] at hq
        rcases hq with rfl | rfl | rfl
        · exact zz_2_2147483646_1_0
        · exact zz_2_2147483646_1_1
        · exact zz_2_2147483646_1_2
      · have hq : q ∈ ([0, 1, 2] : List Nat) := hq
        simp only [List.mem_cons, List.not_mem_nil, or_false] at hq
        rcases hq with rfl | rfl | rfl
        · exact zz_2_2147483646_2_0
        · exact zz_2_2147483646_2_1
        · exact zz_2_2147483646_2_2
    · have ha : a ∈ ([0, 1, 2] : List Nat) := ha
      simp only [List.mem_cons, List.not_mem_nil, or_false] at ha
      rcases ha with rfl | rfl | rfl
      · have hq : q ∈ ([0, 1, 2] : List Nat) := hq
        simp only [List.mem_cons, List.not_mem_nil, or_false] at hq
        rcases hq with rfl | rfl | rfl
        · exact zz_2_2147483645_0_0
        · exact zz_2_2147483645_0_1
        · exact zz_2_2147483645_0_2
      · have hq : q ∈ ([0, 1, 2] : List Nat) := hq
        simp only [List.mem_cons, List.not_mem_nil, or_false] at hq
        rcases hq with rfl | rfl | rfl
        · exact zz_2_2147483645_1_0
        · exact zz_2_2147483645_1_1
        · exact zz_2_2147483645_1_2
      · have hq : q ∈ ([0, 1, 2] : List Nat) := hq
        simp only [List.mem_cons, List.not_mem_nil, or_false] at hq
        rcases hq with rfl | rfl | rfl
        · exact zz_2_2147483645_2_0
        · exact zz_2_2147483645_2_1
        · exact zz_2_2147483645_2_2
end D
end Go.Sh
set_option linter.unusedVariables false
set_option linter.unusedSimpArgs false
set_option synthInstance.maxSize 100000
set_option maxHeartbeats 4000000
namespace Go.Sh
open Go Data
theorem Gets.both {α : Type} {P Q : α → Prop} {x : Option α} (h1 : Gets P x) (h2 : Gets Q x) : Gets (fun a => P a ∧ Q a) x := by
  obtain ⟨a, rfl, h⟩ := h1
  obtain ⟨b, e, h'⟩ := h2
  simp only [Option.some.injEq] at e
  subst e
  exact ⟨_, rfl, h, h'⟩

namespace D
/-! ## What is drawn, told exactly -/
def A27 (a : Address) : Prop := (1 ≤ a.1 ∧ a.1 ≤ 3) ∧ (0 ≤ a.2.1 ∧ a.2.1 ≤ 2) ∧ 0 ≤ a.2.2 ∧ a.2.2 ≤ 2

def rawI : List Int := [-1, 0, 9, 10, 99, 100, 9223372036854775807, -9223372036854775808]

def AAny (a : Address) : Prop := A27 a ∨ (a.1 ∈ rawI ∧ (0 ≤ a.2.1 ∧ a.2.1 ≤ 2) ∧ 0 ≤ a.2.2 ∧ a.2.2 ≤ 2) ∨ ((1 ≤ a.1 ∧ a.1 ≤ 3) ∧ a.2.1 ∈ rawI ∧ 0 ≤ a.2.2 ∧ a.2.2 ≤ 2) ∨ ((1 ≤ a.1 ∧ a.1 ≤ 3) ∧ (0 ≤ a.2.1 ∧ a.2.1 ≤ 2) ∧ a.2.2 ∈ rawI)

def digits (b : List Int) : Prop := b.length ≤ 4 ∧ ∀ v ∈ b, 0 ≤ v ∧ v ≤ 8

def D5 (k : Int) (b : List Int) (a : Address) : Prop := (k = 3 ∧ b = [] ∧ A27 a) ∨ (k = 4 ∧ b = [] ∧ a = (0, 0, 0)) ∨ ((k = 1 ∨ k = 2) ∧ digits b ∧ a = (0, 0, 0))

theorem rN_small {v : Int} (h0 : 0 ≤ v) (h1 : v < 2147483647) : rN v = v.toNat := by unfold rN; omega

theorem raw_res {v : Int} (h : v ∈ rawI) : rN v ∈ rawR := by
  simp only [rawI, List.mem_cons, List.not_mem_nil, or_false] at h
  rcases h with rfl | rfl | rfl | rfl | rfl | rfl | rfl | rfl <;> decide

theorem dig3 {v : Int} (h0 : 0 ≤ v) (h1 : v ≤ 2) : rN v ∈ ([0, 1, 2] : List Nat) := by
  rw [rN_small h0 (by omega)]; simp only [List.mem_cons, List.not_mem_nil, or_false]; omega

theorem host3 {v : Int} (h0 : 1 ≤ v) (h1 : v ≤ 3) : rN v = 1 ∨ rN v = 2 ∨ rN v = 3 := by
  rw [rN_small (by omega) (by omega)]; omega

theorem host3' {v : Int} (h0 : 1 ≤ v) (h1 : v ≤ 3) : rN v ∈ ([1, 2, 3] : List Nat) := by
  have := host3 h0 h1
  simpa using this

theorem sub3 {v : Nat} (h : v ∈ ([0, 1, 2] : List Nat)) : v ∈ rawR := by
  simp only [List.mem_cons, List.not_mem_nil, or_false] at h
  rcases h with rfl | rfl | rfl <;> decide

theorem le3 {v : Nat} (h : v ∈ ([0, 1, 2] : List Nat)) : v ≤ 2 := by
  simp only [List.mem_cons, List.not_mem_nil, or_false] at h; omega

theorem pas_small {h a : Nat} (ha : a ∈ ([0, 1, 2] : List Nat)) : a ∈ pasR h := by
  unfold pasR; split
  · exact sub3 ha
  · exact ha

theorem qs_small {h a q : Nat} (hq : q ∈ ([0, 1, 2] : List Nat)) : q ∈ qsR h a := by
  unfold qsR; split
  · exact sub3 hq
  · exact hq

theorem raw_hs {v : Nat} (h : v ∈ rawR) : v ∈ hsR := by
  simp only [rawR, List.mem_cons, List.not_mem_nil, or_false] at h
  rcases h with rfl | rfl | rfl | rfl | rfl | rfl | rfl | rfl | rfl <;> decide

theorem three_hs {v : Nat} (h : v = 1 ∨ v = 2 ∨ v = 3) : v ∈ hsR := by rcases h with rfl | rfl | rfl <;> decide

theorem any_res {a : Address} (h : AAny a) : rN a.1 ∈ hsR ∧ rN a.2.1 ∈ pasR (rN a.1) ∧ rN a.2.2 ∈ qsR (rN a.1) (rN a.2.1) := by
  rcases h with ⟨h1, h2, h3, h4⟩ | ⟨h1, h2, h3, h4⟩ | ⟨h1, h2, h3, h4⟩ | ⟨h1, h2, h3⟩
  · exact ⟨three_hs (host3 h1.1 h1.2), pas_small (dig3 h2.1 h2.2), qs_small (dig3 h3 h4)⟩
  · exact ⟨raw_hs (raw_res h1), pas_small (dig3 h2.1 h2.2), qs_small (dig3 h3 h4)⟩
  · refine ⟨three_hs (host3 h1.1 h1.2), ?_, qs_small (dig3 h3 h4)⟩
    unfold pasR; rw [if_pos (host3 h1.1 h1.2)]; exact raw_res h2
  · refine ⟨three_hs (host3 h1.1 h1.2), pas_small (dig3 h2.1 h2.2), ?_⟩
    unfold qsR; rw [if_pos ⟨host3 h1.1 h1.2, le3 (dig3 h2.1 h2.2)⟩]; exact raw_res h3

theorem zero_any : AAny (0, 0, 0) := .inr (.inl ⟨by decide, by decide, by decide⟩)

abbrev SoundR (k : Int) (b : List Int) (a : Address) : Prop := Sound (resIntsP (k, b, a))

theorem of_head {k : Int} {b t : List Int} {a : Address} {n e : Nat} {tails : List (List Nat)} (hg : headG (rN k) (rN a.1) (rN a.2.1) (rN a.2.2) n e tails = true) (hs : b.length = n) (he : t.length = e) (hne : n + e ≤ 7) (hv : ∀ v ∈ b, 0 ≤ v ∧ v ≤ 8) (ht : t.map rN ∈ tails) : SoundR k (b ++ t) a := head_sound hg hs he hne hv ht

theorem of_heads {k : Int} {b : List Int} {a : Address} (hg : heads4 (rN k) (rN a.1) (rN a.2.1) (rN a.2.2) = true) (hb : digits b) : SoundR k b a := heads4_sound hg hb.1 hb.2

theorem kind12 {k : Int} (h : k = 1 ∨ k = 2) : rN k = 1 ∨ rN k = 2 := by rcases h with rfl | rfl <;> decide

theorem nil_digits : digits [] := ⟨by simp, fun _ h => by cases h⟩

theorem of_nil {k : Int} {a : Address} (hg : headG (rN k) (rN a.1) (rN a.2.1) (rN a.2.2) 0 0 [[]] = true) : SoundR k [] a := of_head (b := []) (t := []) hg rfl rfl (by omega) (fun _ h => by cases h) (by simp)

theorem sound_any {k : Int} {b : List Int} {a0 a : Address} (h : D5 k b a0) (ha : AAny a) : SoundR k b a := by
  obtain ⟨r1, r2, r3⟩ := any_res ha
  rcases h with ⟨rfl, rfl, _⟩ | ⟨rfl, rfl, _⟩ | ⟨hk, hb, _⟩
  · exact of_nil (List.all_eq_true.1 (List.all_eq_true.1 (List.all_eq_true.1 (List.all_eq_true.1 zz_none 3 (by simp)) _ r1) _ r2) _ r3)
  · exact of_nil (List.all_eq_true.1 (List.all_eq_true.1 (List.all_eq_true.1 (List.all_eq_true.1 zz_none 4 (by simp)) _ r1) _ r2) _ r3)
  · exact of_heads (zz_all (kind12 hk) r1 r2 r3) hb

theorem sound_same {k : Int} {b : List Int} {a : Address} (h : D5 k b a) : SoundR k b a := by
  refine sound_any h ?_
  rcases h with ⟨_, _, h⟩ | ⟨_, _, rfl⟩ | ⟨_, _, rfl⟩
  · exact .inl h
  · exact zero_any
  · exact zero_any

theorem kinds_in {k : Int} (h : k ∈ ([0, 5, 3, 4] : List Int)) : rN k ∈ ([0, 3, 4, 5] : List Nat) := by
  simp only [List.mem_cons, List.not_mem_nil, or_false] at h
  rcases h with rfl | rfl | rfl | rfl <;> decide

theorem sound_kind {k k' : Int} {b : List Int} {a : Address} (h : D5 k b a) (hk : k' ∈ ([0, 5, 3, 4] : List Int)) : SoundR k' b a := by
  have hr := kinds_in hk
  rcases h with ⟨_, rfl, h1, h2, h3, h4⟩ | ⟨_, rfl, rfl⟩ | ⟨_, hb, rfl⟩
  · exact of_nil (List.all_eq_true.1 (List.all_eq_true.1 (List.all_eq_true.1 (List.all_eq_true.1 zz_none27 _ hr) _ (host3' h1.1 h1.2)) _ (dig3 h2.1 h2.2)) _ (dig3 h3 h4))
  · exact of_heads (List.all_eq_true.1 zz_kinds _ hr) nil_digits
  · exact of_heads (List.all_eq_true.1 zz_kinds _ hr) hb

theorem tail_in {v : Int} (h : v ∈ ([-1, 255, 256] : List Int)) : [v].map rN ∈ tails3 := by
  simp only [List.mem_cons, List.not_mem_nil, or_false] at h
  rcases h with rfl | rfl | rfl <;> decide

theorem sound_tail {k v : Int} {b : List Int} {a : Address} (h : D5 k b a) (hv : v ∈ ([-1, 255, 256] : List Int)) : SoundR k (b ++ [v]) a := by
  have ht := tail_in hv
  rcases h with ⟨rfl, rfl, h1, h2, h3, h4⟩ | ⟨rfl, rfl, rfl⟩ | ⟨hk, hb, rfl⟩
  · exact of_head (n := 0) (e := 1) (List.all_eq_true.1 (List.all_eq_true.1 (List.all_eq_true.1 zz_one3 _ (host3' h1.1 h1.2)) _ (dig3 h2.1 h2.2)) _ (dig3 h3 h4)) rfl rfl (by omega) (fun _ h => by cases h) ht
  · exact of_head (n := 0) (e := 1) zz_one4 rfl rfl (by omega) (fun _ h => by cases h) ht
  · have hk' : rN k ∈ ([1, 2] : List Nat) := by simpa using kind12 hk
    have hz : rN 0 = 0 := by decide
    have hg : heads3 (rN k) (rN 0) (rN 0) (rN 0) = true := by rw [hz]; exact List.all_eq_true.1 zz_tails _ hk'
    show Sound ([k, 0, 0, 0, ((b ++ [v]).length : Int)] ++ (b ++ [v]))
    exact heads3_sound hg hb.1 hb.2 hv

theorem sound_seven {k : Int} {b : List Int} {a : Address} (h : D5 k b a) : SoundR k [1, 2, 3, 4, 5, 6, 7] a := by
  have ht : ([1, 2, 3, 4, 5, 6, 7] : List Int).map rN ∈ ([[1, 2, 3, 4, 5, 6, 7]] : List (List Nat)) := by decide
  rcases h with ⟨rfl, _, h1, h2, h3, h4⟩ | ⟨rfl, _, rfl⟩ | ⟨hk, _, rfl⟩
  · exact of_head (b := []) (n := 0) (e := 7) (List.all_eq_true.1 (List.all_eq_true.1 (List.all_eq_true.1 zz_seven3 _ (host3' h1.1 h1.2)) _ (dig3 h2.1 h2.2)) _ (dig3 h3 h4)) rfl rfl (by omega) (fun _ h => by cases h) ht
  · exact of_head (b := []) (n := 0) (e := 7) (List.all_eq_true.1 zz_seven 4 (by simp)) rfl rfl (by omega) (fun _ h => by cases h) ht
  · have hk' : rN k ∈ ([1, 2, 4] : List Nat) := by rcases kind12 hk with h | h <;> simp [h]
    exact of_head (b := []) (n := 0) (e := 7) (List.all_eq_true.1 zz_seven _ hk') rfl rfl (by omega) (fun _ h => by cases h) ht

theorem spec_l4Draw_27 {c : l1Cur} (h : curOk c) : Gets (fun r => A27 r.1 ∧ curOk r.2) (spec_l4Draw c) :=
  Gets.bind (spec_l1Below_is h (by omega)) fun r ⟨h1, h2⟩ => Gets.bind (spec_l1Below_is h2 (by omega)) fun r3 ⟨h3, h4⟩ => Gets.bind (spec_l1Below_is h4 (by omega)) fun r4 ⟨h5, h6⟩ =>
    Gets.pure ⟨⟨by have e : N.add .i64 1 r.1 = 1 + r.1 := add_id (by omega) (by omega)
                   simp only [e]; omega, ⟨h3.1, by simp only; omega⟩, h5.1, by simp only; omega⟩, h6⟩

theorem spec_l4Raw_in {c : l1Cur} (h : curOk c) : Gets (fun r => r.1 ∈ rawI ∧ curOk r.2) (spec_l4Raw c) :=
  Gets.bind (spec_l1Int_is h (by simp) (by simp [ok])) fun r ⟨h1, h2⟩ => Gets.pure ⟨h1.2, h2⟩

theorem spec_l4Any_in {c : l1Cur} (h : curOk c) : Gets (fun r => AAny r.1 ∧ curOk r.2) (spec_l4Any c) := by
  refine Gets.bind (spec_l4Draw_27 h) fun r ⟨⟨a1, a2, a3⟩, h2⟩ => Gets.bind (spec_l1Below_is h2 (by omega)) fun r2 ⟨h3, h4⟩ => ?_
  refine Gets.cond (fun _ => ?_) fun _ => Gets.cond (fun _ => ?_) fun _ => Gets.cond (fun _ => ?_) fun _ => Gets.pure ⟨.inl ⟨a1, a2, a3⟩, h4⟩
  · exact Gets.bind (spec_l4Raw_in h4) fun r5 ⟨h5, h6⟩ => Gets.pure ⟨.inr (.inl ⟨h5, a2, a3⟩), h6⟩
  · exact Gets.bind (spec_l4Raw_in h4) fun r5 ⟨h5, h6⟩ => Gets.pure ⟨.inr (.inr (.inl ⟨a1, h5, a3⟩)), h6⟩
  · exact Gets.bind (spec_l4Raw_in h4) fun r5 ⟨h5, h6⟩ => Gets.pure ⟨.inr (.inr (.inr ⟨a1, a2, h5⟩)), h6⟩

theorem spec_l5Body_in {c : l1Cur} (h : curOk c) : Gets (fun r => digits r.1 ∧ curOk r.2) (spec_l5Body c) := by
  refine Gets.bind (spec_l1Below_is h (n := 5) (by omega)) fun r ⟨h1, h2⟩ => ?_
  refine Gets.loop (I := fun s : List Int × Int × (List Int × Int × Int) => (s.1.length : Int) + s.2.1 ≤ 4 ∧ 0 ≤ s.2.1 ∧ (∀ v ∈ s.1, 0 ≤ v ∧ v ≤ 8) ∧ curOk s.2.2) (m := fun s => s.2.1.toNat) (fun s hs => ?_) _ ⟨by simp; omega, h1.1, fun _ h => (by cases h), h2⟩
  obtain ⟨i1, i2, i3, i4⟩ := hs
  refine Gets.cond (fun hg => ?_) fun _ => Gets.pure ⟨⟨by simp only; omega, i3⟩, i4⟩
  have hg' : 0 < s.2.1 := by simpa [gt_d] using hg
  have hn : N.sub .i64 s.2.1 1 = s.2.1 - 1 := sub_id (by omega) (by omega)
  refine Gets.bind (spec_l1Below_is i4 (n := 9) (by omega)) fun r2 ⟨h3, h4⟩ => Gets.ite (fitsN (by simp; omega) (by omega)) (Gets.pure ⟨⟨by simp [N.app, hn]; omega, by simp only [hn]; omega, fun v hv => ?_, h4⟩, by simp only [hn]; omega⟩)
  rcases List.mem_append.1 hv with hv | hv
  · exact i3 v hv
  · simp only [List.mem_singleton] at hv; subst hv; omega

theorem spec_l5Draw_in {c : l1Cur} (h : curOk c) : Gets (fun r => D5 r.1 r.2.1 (r.2.2.1, r.2.2.2.1, r.2.2.2.2.1) ∧ curOk r.2.2.2.2.2) (spec_l5Draw c) := by
  refine Gets.bind (spec_l1Below_is h (by omega)) fun r ⟨h1, h2⟩ => Gets.cond (fun _ => ?_) fun _ => Gets.cond (fun _ => Gets.pure ⟨.inr (.inl ⟨rfl, rfl, rfl⟩), h2⟩) fun _ => ?_
  · exact Gets.bind (spec_l4Draw_27 h2) fun r ⟨a, h3⟩ => Gets.pure ⟨.inl ⟨rfl, rfl, a⟩, h3⟩
  · refine Gets.bind (spec_l1Below_is h2 (by omega)) fun r3 ⟨h3, h4⟩ => Gets.bind (spec_l5Body_in h4) fun r4 ⟨h5, h6⟩ => Gets.pure ⟨.inr (.inr ⟨?_, h5, rfl⟩), h6⟩
    have e : N.add .i64 1 r3.1 = 1 + r3.1 := add_id (by omega) (by omega)
    simp only [e]; omega

theorem spec_l5Any_in {c : l1Cur} (h : curOk c) : Gets (fun r => SoundR r.1 r.2.1 (r.2.2.1, r.2.2.2.1, r.2.2.2.2.1)) (spec_l5Any c) := by
  refine Gets.bind (spec_l5Draw_in h) fun r ⟨d, h2⟩ => Gets.bind (spec_l1Below_is h2 (by omega)) fun r2 ⟨h3, h4⟩ => ?_
  refine Gets.cond (fun _ => ?_) fun _ => Gets.cond (fun _ => ?_) fun _ => Gets.cond (fun _ => ?_) fun _ => Gets.cond (fun _ => ?_) fun _ => Gets.pure (sound_same d)
  · exact Gets.bind (spec_l1Int_is h4 (by simp) (by simp [ok])) fun r3 ⟨h5, h6⟩ => Gets.pure (sound_kind d h5.2)
  · refine Gets.bind (spec_l1Int_is h4 (by simp) (by simp [ok])) fun r3 ⟨h5, h6⟩ => Gets.ite ?_ (Gets.pure (sound_tail d h5.2))
    have : r.2.1.length ≤ 4 := by
      rcases d with ⟨_, e, _⟩ | ⟨_, e, _⟩ | ⟨_, e, _⟩
      · rw [e]; simp
      · rw [e]; simp
      · exact e.1
    exact fitsN (by simp; omega) (by omega)
  · exact Gets.pure (sound_seven d)
  · exact Gets.bind (spec_l4Any_in h4) fun r3 ⟨h5, h8⟩ => Gets.pure (sound_any d h5)

def ResG (r : Int × List Int × Int × Int × Int × l1Cur) : Prop := ok ((r.1, r.2.1, (r.2.2.1, r.2.2.2.1, r.2.2.2.2.1)) : Resource) ∧ SoundR r.1 r.2.1 (r.2.2.1, r.2.2.2.1, r.2.2.2.2.1) ∧ curOk r.2.2.2.2.2

theorem spec_l5Any_all {c : l1Cur} (h : curOk c) : Gets ResG (spec_l5Any c) :=
  (Gets.both (spec_l5Any_is h) (spec_l5Any_in h)).mono fun a ⟨⟨⟨a1, a2, a3, a4, a5⟩, h2⟩, h3⟩ => ⟨⟨a1, a2.ok (by omega), a3, a4, a5⟩, h3, h2⟩

theorem spec_DrawCheckAnswer_is {x : List Int} (h : x.length ≤ 1048576) : Gets (fun r => ok ((r.1, r.2.1, (r.2.2.1, r.2.2.2.1, r.2.2.2.2.1)) : Resource) ∧ SoundR r.1 r.2.1 (r.2.2.1, r.2.2.2.1, r.2.2.2.2.1) ∧ (0 ≤ r.2.2.2.2.2.1 ∧ r.2.2.2.2.2.1 ≤ 4) ∧ 0 ≤ r.2.2.2.2.2.2.1 ∧ r.2.2.2.2.2.2.1 ≤ 8) (spec_DrawCheckAnswer x) := by
  refine Gets.bind (spec_l1New_is h) fun c hc => Gets.bind (spec_l5Any_all hc) fun r ⟨g1, g2, g3⟩ => Gets.bind (spec_l1Below_is g3 (by omega)) fun r3 ⟨b3, h3⟩ => Gets.bind (spec_l1Below_is h3 (by omega)) fun r4 ⟨b4, h4⟩ => ?_
  rw [spec_DigestOf_is g1, bind_some', spec_NonceFor_is, bind_some', spec_AnswerWith_is g1, bind_some']
  refine Gets.bind (spec_l1Once_is h4 (by omega)) fun r8 h8 => Gets.cond (fun _ => Gets.bind (spec_l1Int_is h8 (by simp) (fun y hy => ?_)) fun r9 _ => Gets.pure ⟨g1, g2, ⟨b3.1, by simp only; omega⟩, b4.1, by simp only; omega⟩) fun _ => Gets.pure ⟨g1, g2, ⟨b3.1, by simp only; omega⟩, b4.1, by simp only; omega⟩
  simp only [List.mem_cons, List.not_mem_nil, or_false] at hy
  rcases hy with rfl | rfl | rfl
  · exact ok_num (by omega) (by omega)
  · exact ok_add _ _
  · exact ok_num (by omega) (by omega)

theorem spec_DrawServesOther_is {x : List Int} (h : x.length ≤ 1048576) : Gets (fun r => ok ((r.1, r.2.1, (r.2.2.1, r.2.2.2.1, r.2.2.2.2.1)) : Resource) ∧ SoundR r.1 r.2.1 (r.2.2.1, r.2.2.2.1, r.2.2.2.2.1) ∧ (0 ≤ r.2.2.2.2.2.1 ∧ r.2.2.2.2.2.1 ≤ 4) ∧ (0 ≤ r.2.2.2.2.2.2.1 ∧ r.2.2.2.2.2.2.1 ≤ 4) ∧ 0 ≤ r.2.2.2.2.2.2.2 ∧ r.2.2.2.2.2.2.2 ≤ 8) (spec_DrawServesOther x) :=
  Gets.bind (spec_DrawCheckAnswer_is h) fun r ⟨g1, g2, g3, g4⟩ => Gets.bind (spec_l1New_is h) fun c hc => Gets.bind (spec_l1Below_is hc (by omega)) fun r3 ⟨b3, h3⟩ => Gets.pure ⟨g1, g2, g3, ⟨b3.1, by simp only; omega⟩, g4⟩

theorem spec_DrawCountProofs_is {x : List Int} (h : x.length ≤ 1048576) : Gets (fun r => ok ((r.1, r.2.1, (r.2.2.1, r.2.2.2.1, r.2.2.2.2.1)) : Resource) ∧ r.2.2.2.2.2.1.length ≤ 5) (spec_DrawCountProofs x) := by
  refine Gets.bind (spec_DrawCheckAnswer_is h) fun r ⟨g1, g2, g3, g4⟩ => Gets.bind (spec_l1New_is h) fun c hc => ?_
  refine Gets.loop (I := fun s : List Int × Int × (List Int × Int × Int) => (s.1.length : Int) ≤ s.2.1 ∧ 0 ≤ s.2.1 ∧ s.2.1 ≤ 5 ∧ curOk s.2.2) (m := fun s => 5 - s.2.1.toNat) (fun s hs => ?_) _ ⟨by simp, by simp, by simp, hc⟩
  obtain ⟨i1, i2, i3, i4⟩ := hs
  refine Gets.cond (fun hg => ?_) fun _ => Gets.pure ⟨g1, by simp only; omega⟩
  have hg' : s.2.1 < 5 := by simpa [lt_d] using hg
  have hn : N.add .i64 s.2.1 1 = s.2.1 + 1 := add_id (by omega) (by omega)
  rw [spec_DigestOf_is g1, bind_some', spec_NonceFor_is, bind_some', spec_AnswerWith_is g1, bind_some', hn]
  refine Gets.bind (spec_l1Once_is i4 (by omega)) fun r6 h6 => Gets.cond (fun _ => ?_) fun _ => ?_
  all_goals exact Gets.ite (fitsN (by simp; omega) (by omega)) (Gets.pure ⟨⟨by simp [N.app]; omega, by simp only; omega, by simp only; omega, h6⟩, by simp only; omega⟩)

/-! ## Possession -/
theorem nonce_in (a b c : Int) : 1 ≤ nonceP a b c ∧ nonceP a b c ≤ 100000 := by unfold nonceP; omega

theorem right_is (r : Resource) (a t : Int) : rightP r a t = keyedP (nonceP a (hashP (resIntsP r)) t) (resIntsP r) := by
  unfold rightP answerP
  have := nonce_in a (digestP r) t
  rw [if_pos (show validP _ from ⟨this.1, by omega⟩)]; rfl

theorem FnPossession_true (x : List Int) (hx : bd x) : laws_FnPossession x = some true := by
  unfold laws_FnPossession laws_big
  rw [bind_some', gt_d, len_d, cond_dec]
  by_cases hb : (1048576 : Int) < (x.length : Int)
  · rw [if_pos hb]
  rw [if_neg hb]
  have hxl : x.length ≤ 1048576 := by omega
  obtain ⟨d, e1, k1, k2, k3, k4⟩ := spec_DrawCheckAnswer_is hxl
  obtain ⟨d2, e2, m1, m2, m3, m4, m5⟩ := spec_DrawServesOther_is hxl
  obtain ⟨d3, e3, n1, n2⟩ := spec_DrawCountProofs_is hxl
  rw [e1, bind_some']
  have k2 : Sound (resIntsP ((d.1, d.2.1, (d.2.2.1, d.2.2.2.1, d.2.2.2.2.1)) : Resource)) := k2
  generalize ((d.1, d.2.1, (d.2.2.1, d.2.2.2.1, d.2.2.2.2.1)) : Resource) = r at k1 k2 ⊢
  have hx0 : answerP r (nonceP d.2.2.2.2.2.1 (digestP r) d.2.2.2.2.2.2.1) = rightP r d.2.2.2.2.2.1 d.2.2.2.2.2.2.1 := rfl
  have hne : rightP r d.2.2.2.2.2.1 d.2.2.2.2.2.2.1 ≠ 0 := by rw [right_is]; exact k2.2 _ _ k3 k4
  rw [impl_DigestOf_is k1, bind_some', impl_NonceFor_is, bind_some', impl_AnswerWith_is k1, bind_some', hx0, eq_d, decide_eq_false hne, cond_false, impl_CheckAnswer_is k1, bind_some', impl_CheckAnswer_is k1, bind_some', e2, bind_some']
  have hc1 : checkP r d.2.2.2.2.2.1 d.2.2.2.2.2.2.1 (rightP r d.2.2.2.2.2.1 d.2.2.2.2.2.2.1) = true := by unfold checkP; exact decide_eq_true ⟨hne, rfl⟩
  have hc2 : checkP r d.2.2.2.2.2.1 d.2.2.2.2.2.2.1 d.2.2.2.2.2.2.2 = N.eq d.2.2.2.2.2.2.2 (rightP r d.2.2.2.2.2.1 d.2.2.2.2.2.2.1) := by
    unfold checkP
    rw [eq_d]
    refine decide_eq_decide.2 ⟨fun h => h.2, fun h => ⟨fun h0 => hne (by rw [← h, h0]), h⟩⟩
  have hb1 : ∀ b : Bool, N.neB b b = false := fun b => by cases b <;> rfl
  rw [hc1, not_b, Bool.not_true, cond_false, hc2, hb1, cond_false]
  have m2 : Sound (resIntsP ((d2.1, d2.2.1, (d2.2.2.1, d2.2.2.2.1, d2.2.2.2.2.1)) : Resource)) := m2
  generalize ((d2.1, d2.2.1, (d2.2.2.1, d2.2.2.2.1, d2.2.2.2.2.1)) : Resource) = r2 at m1 m2 ⊢
  rw [impl_ServesOther_is m1, bind_some', impl_DigestOf_is m1, bind_some', impl_NonceFor_is, bind_some', bind_some', impl_NonceFor_is, bind_some']
  have hc3 : checkP r2 d2.2.2.2.2.2.2.1 d2.2.2.2.2.2.2.2 (rightP r2 d2.2.2.2.2.2.1 d2.2.2.2.2.2.2.2) = N.eq (nonceP d2.2.2.2.2.2.1 (digestP r2) d2.2.2.2.2.2.2.2) (nonceP d2.2.2.2.2.2.2.1 (digestP r2) d2.2.2.2.2.2.2.2) := by
    unfold checkP
    rw [eq_d, right_is, right_is]
    have q1 := nonce_in d2.2.2.2.2.2.1 (digestP r2) d2.2.2.2.2.2.2.2
    have q2 := nonce_in d2.2.2.2.2.2.2.1 (digestP r2) d2.2.2.2.2.2.2.2
    obtain ⟨w, hw⟩ := m2.1
    refine decide_eq_decide.2 ⟨fun h => key_inj (by omega) (by omega) hw h.2, fun h => ⟨m2.2 _ _ m3 m5, ?_⟩⟩
    have h' : nonceP d2.2.2.2.2.2.1 (hashP (resIntsP r2)) d2.2.2.2.2.2.2.2 = nonceP d2.2.2.2.2.2.2.1 (hashP (resIntsP r2)) d2.2.2.2.2.2.2.2 := h
    rw [h']
  rw [hc3, hb1, cond_false, e3, bind_some']
  generalize ((d3.1, d3.2.1, (d3.2.2.1, d3.2.2.2.1, d3.2.2.2.2.1)) : Resource) = r3 at n1 ⊢
  generalize d3.2.2.2.2.2.1 = l at n2 ⊢
  generalize d3.2.2.2.2.2.2 = t
  refine loop_upto l.length (fun k (c : Int) => (c, (k : Int))) (fun k => countAt (fun k a => checkP r3 k t a) (l.take k) 0) true (fun k hk => ?_) ?_
  · have i0 : (0 : Int) ≤ (k : Int) := by omega
    have i1 : (k : Int) < (l.length : Int) := by omega
    simp only [lt_d, len_d, nite_pos i0, nite_pos i1, rd_at l k hk, impl_CheckAnswer_is n1, bind_some', next_id hk (by omega)]
    rw [decide_eq_true i1, cond_true, List.take_succ_eq_append_getElem hk, countAt_append, List.length_take, Nat.min_eq_left (by omega)]
    have hle := countAt_le (p := fun (k : Nat) a => checkP r3 k t a) (l.take k) 0
    simp only [List.length_take] at hle
    simp only [countAt, Nat.zero_add]
    cases checkP r3 (k : Int) t l[k] with
    | true =>
      rw [cond_true, add_id (by omega) (by omega)]
      simp
    | false =>
      rw [cond_false]
      simp
  · simp only [lt_d, len_d]
    rw [decide_eq_false (Int.lt_irrefl _), cond_false, impl_CountProofs_is n1 (by omega), bind_some', List.take_length, eq_d]
    simp

end D
end Go.Sh
