/- The native forms of the functions that FnProven reaches, and their pure laws: FnProven is true for every input of bounded parts. No condition beyond the bounds that every input keeps. -/
import Derived.Test.YtekclbjiifiahaaSh9
set_option linter.unusedVariables false
set_option maxRecDepth 100000
set_option maxHeartbeats 4000000
namespace Go.Sh
open Go
namespace N
def nostr : ByteArray := ByteArray.empty
def lit (l : List UInt8) : ByteArray := ⟨l.toArray⟩
def let_ {α R : Type} (x : α) (f : α → Option R) : Option R := f x
end N
namespace D
abbrev Statement : Type := Int × Int × Int × Int
abbrev l1Cur : Type := (List Int) × Int × Int
noncomputable def spec_l1In (x0 : Int) (x1 : Int) (x2 : Int) : Option (Bool) :=
  N.cond (N.ge x0 x1)
    (some (N.le x0 x2))
    (some false)

noncomputable def spec_IsValidKey (x0 : Int) : Option (Bool) :=
  N.bind (spec_l1In x0 1 2147483646) fun r1 =>
    some r1

noncomputable def spec_Mod (x0 : Int) (x1 : Int) : Option (Int) :=
  N.bind (spec_l1In x1 1 1000000000000) fun r1 =>
    N.cond (N.not r1)
      (some 0)
      (
        N.ite (x1 = 0)
          none
          (
            N.ite (x1 = 0)
              none
              (some (N.rem (N.add .i64 (N.rem x0 x1) x1) x1))))

noncomputable def spec_Hash (x0 : List Int) : Option (Int) :=
  loopF (fun (s1 : Int × Int) =>
      N.cond (N.lt s1.2 (N.len x0))
        (
          N.ite (0 ≤ s1.2)
            (
              N.ite (s1.2 < N.len x0)
                (
                  N.bind (spec_Mod (N.rd x0 s1.2 0) 2147483647) fun r1 =>
                    some (.inl (N.rem (N.add .i64 (N.add .i64 (N.mul .i64 s1.1 1000003) r1) 13) 2147483647, N.add .i64 s1.2 1)))
                none)
            none)
        (some (.inr s1.1)))
    (11, 0)

noncomputable def spec_KeyedHash (x0 : Int) (x1 : List Int) : Option (Int) :=
  N.ite (N.fits [x0] x1 8)
    (
      N.ite (N.fits (N.app [x0] x1) [x0] 8)
        (
          N.bind (spec_Hash (N.app (N.app [x0] x1) [x0])) fun r1 =>
            some r1)
        none)
    none

noncomputable def spec_SealStatement (x0 : Int) (x1 : Statement) : Option (Statement) :=
  N.bind (spec_IsValidKey x0) fun r1 =>
    N.cond r1
      (
        N.bind (spec_KeyedHash x0 [x1.1, x1.2.1, x1.2.2.1]) fun r2 =>
          some (x1.1, x1.2.1, x1.2.2.1, r2))
      (some (x1.1, x1.2.1, x1.2.2.1, 0))

noncomputable def bits_Mul64 (x0 : Int) (x1 : Int) : Option (Int × Int) :=
  some (N.add .u64 (N.add .u64 (N.mul .u64 (N.shr .u64 x0 32) (N.shr .u64 x1 32)) (N.shr .u64 (N.add .u64 (N.mul .u64 (N.shr .u64 x0 32) (N.and .u64 x1 4294967295)) (N.shr .u64 (N.mul .u64 (N.and .u64 x0 4294967295) (N.and .u64 x1 4294967295)) 32)) 32)) (N.shr .u64 (N.add .u64 (N.and .u64 (N.add .u64 (N.mul .u64 (N.shr .u64 x0 32) (N.and .u64 x1 4294967295)) (N.shr .u64 (N.mul .u64 (N.and .u64 x0 4294967295) (N.and .u64 x1 4294967295)) 32)) 4294967295) (N.mul .u64 (N.and .u64 x0 4294967295) (N.shr .u64 x1 32))) 32), N.mul .u64 x0 x1)

noncomputable def bits_Mul (x0 : Int) (x1 : Int) : Option (Int × Int) :=
  N.bind (bits_Mul64 x0 x1) fun r1 =>
    some r1

noncomputable def slices_Repeat_int (x0 : List Int) (x1 : Int) : Option (List Int) :=
  N.cond (N.lt x1 0)
    none
    (
      N.bind (bits_Mul (N.conv .u64 (N.len x0)) (N.conv .u64 x1)) fun r1 =>
        N.cond (N.gt r1.1 0)
          none
          (
            N.cond (N.gt r1.2 9223372036854775807)
              none
              (
                N.ite (0 ≤ N.conv .i64 r1.2)
                  (
                    N.ite (N.room (N.conv .i64 r1.2) 8)
                      (
                        loopF (fun (s1 : Int × List Int) =>
                            N.cond (N.lt s1.1 (N.len s1.2))
                              (
                                N.ite (0 ≤ s1.1)
                                  (
                                    N.ite (s1.1 ≤ N.len s1.2)
                                      (
                                        N.ite (N.len s1.2 ≤ N.len s1.2)
                                          (
                                            N.ite (0 ≤ s1.1)
                                              (
                                                N.ite (s1.1 ≤ N.len s1.2)
                                                  (some (.inl (N.add .i64 s1.1 (N.min (N.diff (N.len s1.2) s1.1) (N.len (N.cut s1.2 0 s1.1))), N.cpy s1.2 s1.1 (N.diff (N.len s1.2) s1.1) (N.cut s1.2 0 s1.1))))
                                                  none)
                                              none)
                                          none)
                                      none)
                                  none)
                              (some (.inr s1.2)))
                          (N.min (N.len (N.rep (N.conv .i64 r1.2) (0 : Int))) (N.len x0), N.cpy (N.rep (N.conv .i64 r1.2) (0 : Int)) 0 (N.len (N.rep (N.conv .i64 r1.2) (0 : Int))) x0))
                      none)
                  none)))

noncomputable def impl_at (x0 : Int) (x1 : Int) : Option (Bool) :=
  N.cond (N.ge x0 0)
    (some (N.lt x0 x1))
    (some false)

noncomputable def impl_InRange (x0 : Int) (x1 : Int) (x2 : Int) : Option (Bool) :=
  N.cond (N.le x1 x0)
    (some (N.le x0 x2))
    (some false)

noncomputable def impl_IsValidKey (x0 : Int) : Option (Bool) :=
  N.bind (impl_InRange x0 1 2147483646) fun r1 =>
    some r1

noncomputable def impl_Mod (x0 : Int) (x1 : Int) : Option (Int) :=
  N.bind (impl_InRange x1 1 1000000000000) fun r1 =>
    N.cond (N.not r1)
      (some 0)
      (
        N.ite (x1 = 0)
          none
          (
            N.ite (x1 = 0)
              none
              (some (N.rem (N.add .i64 (N.rem x0 x1) x1) x1))))

noncomputable def impl_Hash (x0 : List Int) : Option (Int) :=
  loopF (fun (s1 : Int × Int) =>
      N.cond (N.lt s1.2 (N.len x0))
        (
          N.ite (0 ≤ s1.2)
            (
              N.ite (s1.2 < N.len x0)
                (
                  N.bind (impl_Mod (N.rd x0 s1.2 0) 2147483647) fun r1 =>
                    some (.inl (N.rem (N.add .i64 (N.add .i64 (N.mul .i64 s1.1 1000003) r1) 13) 2147483647, N.add .i64 s1.2 1)))
                none)
            none)
        (some (.inr s1.1)))
    (11, 0)

noncomputable def impl_KeyedHash (x0 : Int) (x1 : List Int) : Option (Int) :=
  N.ite (N.fits [x0] x1 8)
    (
      N.ite (N.fits (N.app [x0] x1) [x0] 8)
        (
          N.bind (impl_Hash (N.app (N.app [x0] x1) [x0])) fun r1 =>
            some r1)
        none)
    none

noncomputable def impl_SealStatement (x0 : Int) (x1 : Statement) : Option (Statement) :=
  N.bind (impl_IsValidKey x0) fun r1 =>
    N.cond r1
      (
        N.bind (impl_KeyedHash x0 [x1.1, x1.2.1, x1.2.2.1]) fun r2 =>
          some (x1.1, x1.2.1, x1.2.2.1, r2))
      (some (x1.1, x1.2.1, x1.2.2.1, 0))

noncomputable def impl_IsStatement (x0 : List Int) (x1 : Statement) : Option (Bool) :=
  N.cond (N.le (N.len x0) 7)
    (
      N.bind (impl_at x1.1 (N.len x0)) fun r1 =>
        N.cond r1
          (
            N.ite (0 ≤ x1.1)
              (
                N.ite (x1.1 < N.len x0)
                  (
                    N.bind (impl_IsValidKey (N.rd x0 x1.1 0)) fun r2 =>
                      N.cond r2
                        (
                          N.bind (impl_InRange x1.2.2.1 0 2000) fun r3 =>
                            N.cond r3
                              (
                                N.ite (0 ≤ x1.1)
                                  (
                                    N.ite (x1.1 < N.len x0)
                                      (
                                        N.bind (impl_SealStatement (N.rd x0 x1.1 0) x1) fun r4 =>
                                          some (N.both (N.eq r4.1 x1.1) (N.both (N.eq r4.2.1 x1.2.1) (N.both (N.eq r4.2.2.1 x1.2.2.1) (N.eq r4.2.2.2 x1.2.2.2)))))
                                      none)
                                  none)
                              (some false))
                        (some false))
                  none)
              none)
          (some false))
    (some false)

noncomputable def impl_FirstSeen (x0 : List Int) (x1 : List Statement) (x2 : Int) : Option (List Int) :=
  N.bind (slices_Repeat_int [(-1)] (N.len x0)) fun r1 =>
    loopF (fun (s1 : Int × List Int) =>
        N.cond (N.lt s1.1 (N.len x1))
          (
            N.ite (0 ≤ s1.1)
              (
                N.ite (s1.1 < N.len x1)
                  (
                    N.cond (N.eq ((N.rd x1 s1.1 (0, 0, 0, 0)).2.1) x2)
                      (
                        N.bind (impl_IsStatement x0 (N.rd x1 s1.1 (0, 0, 0, 0))) fun r2 =>
                          N.cond r2
                            (
                              N.ite (0 ≤ (N.rd x1 s1.1 (0, 0, 0, 0)).1)
                                (
                                  N.ite ((N.rd x1 s1.1 (0, 0, 0, 0)).1 < N.len s1.2)
                                    (
                                      N.cond (N.lt (N.rd s1.2 ((N.rd x1 s1.1 (0, 0, 0, 0)).1) 0) 0)
                                        (
                                          N.ite (0 ≤ (N.rd x1 s1.1 (0, 0, 0, 0)).1)
                                            (
                                              N.ite ((N.rd x1 s1.1 (0, 0, 0, 0)).1 < N.len s1.2)
                                                (some (.inl (N.add .i64 s1.1 1, N.set s1.2 ((N.rd x1 s1.1 (0, 0, 0, 0)).1) ((N.rd x1 s1.1 (0, 0, 0, 0)).2.2.1))))
                                                none)
                                            none)
                                        (
                                          N.ite (0 ≤ (N.rd x1 s1.1 (0, 0, 0, 0)).1)
                                            (
                                              N.ite ((N.rd x1 s1.1 (0, 0, 0, 0)).1 < N.len s1.2)
                                                (
                                                  N.cond (N.lt ((N.rd x1 s1.1 (0, 0, 0, 0)).2.2.1) (N.rd s1.2 ((N.rd x1 s1.1 (0, 0, 0, 0)).1) 0))
                                                    (
                                                      N.ite (0 ≤ (N.rd x1 s1.1 (0, 0, 0, 0)).1)
                                                        (
                                                          N.ite ((N.rd x1 s1.1 (0, 0, 0, 0)).1 < N.len s1.2)
                                                            (some (.inl (N.add .i64 s1.1 1, N.set s1.2 ((N.rd x1 s1.1 (0, 0, 0, 0)).1) ((N.rd x1 s1.1 (0, 0, 0, 0)).2.2.1))))
                                                            none)
                                                        none)
                                                    (some (.inl (N.add .i64 s1.1 1, s1.2))))
                                                none)
                                            none))
                                    none)
                                none)
                            (some (.inl (N.add .i64 s1.1 1, s1.2))))
                      (some (.inl (N.add .i64 s1.1 1, s1.2))))
                  none)
              none)
          (some (.inr s1.2)))
      (0, r1)

noncomputable def impl_ProvenBy (x0 : List Int) (x1 : List Statement) (x2 : Int) (x3 : Int) : Option (Int) :=
  N.bind (impl_FirstSeen x0 x1 x2) fun r1 =>
    N.ite (N.len r1 * 8 ≤ 140737488355328)
      (some (N.provenAt r1 x3))
      none

noncomputable def laws_big (x0 : List Int) : Option (Bool) :=
  some (N.gt (N.len x0) 1048576)

noncomputable def spec_l1New (x0 : List Int) : Option (l1Cur) :=
  loopF (fun (s1 : Int × Int) =>
      N.cond (N.lt s1.2 (N.len x0))
        (
          N.cond (N.lt s1.2 4000)
            (
              N.ite (0 ≤ s1.2)
                (
                  N.ite (s1.2 < N.len x0)
                    (some (.inl (N.and .i64 (N.add .i64 (N.add .i64 (N.mul .i64 s1.1 137) (N.conv .i64 (N.rd x0 s1.2 0))) 11) 1073741823, N.add .i64 s1.2 1)))
                    none)
                none)
            (some (.inr (x0, 0, s1.1))))
        (some (.inr (x0, 0, s1.1))))
    (N.add .i64 193017 (N.len x0), 0)

noncomputable def spec_l1Byte (x0 : l1Cur) : Option (Int × l1Cur) :=
  N.cond (N.lt x0.2.1 (N.len x0.1))
    (
      N.ite (0 ≤ x0.2.1)
        (
          N.ite (x0.2.1 < N.len x0.1)
            (some (N.and .i64 (N.add .i64 (N.and .i64 (N.xor .i64 (N.shr .i64 (N.add .i64 (N.mul .i64 x0.2.2 6364136223846793005) 1442695040888963407) 33) (N.shr .i64 (N.add .i64 (N.mul .i64 x0.2.2 6364136223846793005) 1442695040888963407) 47)) 255) (N.conv .i64 (N.rd x0.1 x0.2.1 0))) 255, (x0.1, N.add .i64 x0.2.1 1, N.add .i64 (N.mul .i64 x0.2.2 6364136223846793005) 1442695040888963407)))
            none)
        none)
    (some (N.and .i64 (N.xor .i64 (N.shr .i64 (N.add .i64 (N.mul .i64 x0.2.2 6364136223846793005) 1442695040888963407) 33) (N.shr .i64 (N.add .i64 (N.mul .i64 x0.2.2 6364136223846793005) 1442695040888963407) 47)) 255, (x0.1, x0.2.1, N.add .i64 (N.mul .i64 x0.2.2 6364136223846793005) 1442695040888963407)))

noncomputable def spec_l1Below (x0 : l1Cur) (x1 : Int) : Option (Int × l1Cur) :=
  N.cond (N.le x1 0)
    (some (0, x0))
    (
      N.cond (N.le x1 256)
        (
          N.bind (spec_l1Byte x0) fun r1 =>
            N.ite (x1 = 0)
              none
              (some (N.rem r1.1 x1, r1.2)))
        (
          N.bind (spec_l1Byte x0) fun r2 =>
            N.bind (spec_l1Byte r2.2) fun r3 =>
              N.bind (spec_l1Byte r3.2) fun r4 =>
                N.ite (x1 = 0)
                  none
                  (some (N.rem (N.add .i64 (N.add .i64 (N.mul .i64 r2.1 65536) (N.mul .i64 r3.1 256)) r4.1) x1, r4.2))))

noncomputable def spec_l26Keys (x0 : l1Cur) : Option ((List Int) × l1Cur) :=
  N.bind (spec_l1Below x0 5) fun r1 =>
    loopF (fun (s1 : List Int × Int) =>
        N.cond (N.gt s1.2 0)
          (
            N.ite (N.fits s1.1 [N.add .i64 10 s1.2] 8)
              (some (.inl (N.app s1.1 [N.add .i64 10 s1.2], N.sub .i64 s1.2 1)))
              none)
          (some (.inr (s1.1, r1.2))))
      ([], N.add .i64 1 r1.1)

noncomputable def spec_l1Int (x0 : l1Cur) (x1 : List Int) : Option (Int × l1Cur) :=
  N.bind (spec_l1Below x0 (N.len x1)) fun r1 =>
    N.ite (0 ≤ r1.1)
      (
        N.ite (r1.1 < N.len x1)
          (some (N.rd x1 r1.1 0, r1.2))
          none)
      none

noncomputable def spec_l4Raw (x0 : l1Cur) : Option (Int × l1Cur) :=
  N.bind (spec_l1Int x0 [(-1), 0, 9, 10, 99, 100, 9223372036854775807, (-9223372036854775808)]) fun r1 =>
    some r1

noncomputable def spec_l26Draw (x0 : l1Cur) (x1 : List Int) : Option (Statement × l1Cur) :=
  N.bind (spec_l1Below x0 (N.len x1)) fun r1 =>
    N.ite (0 ≤ r1.1)
      (
        N.ite (r1.1 < N.len x1)
          (
            N.bind (spec_l1Below r1.2 3) fun r2 =>
              N.bind (spec_l1Below r2.2 20) fun r3 =>
                N.bind (spec_SealStatement (N.rd x1 r1.1 0) (r1.1, r2.1, r3.1, 0)) fun r4 =>
                  N.bind (spec_l1Below r3.2 10) fun r5 =>
                    N.cond (N.eq r5.1 0)
                      (
                        N.bind (spec_l1Int r5.2 [0, 2000, 2001, (-1)]) fun r6 =>
                          some ((r4.1, r4.2.1, r6.1, r4.2.2.2), r6.2))
                      (
                        N.cond (N.eq r5.1 1)
                          (
                            N.bind (spec_l4Raw r5.2) fun r7 =>
                              some ((r7.1, r4.2.1, r4.2.2.1, r4.2.2.2), r7.2))
                          (
                            N.cond (N.eq r5.1 2)
                              (some ((r4.1, r4.2.1, r4.2.2.1, N.add .i64 r4.2.2.2 1), r5.2))
                              (some (r4, r5.2)))))
          none)
      none

noncomputable def spec_l26List (x0 : l1Cur) : Option ((List Int) × (List Statement) × l1Cur) :=
  N.bind (spec_l26Keys x0) fun r1 =>
    N.bind (spec_l1Below r1.2 9) fun r2 =>
      loopF (fun (s1 : List Statement × Int × (List Int × Int × Int)) =>
          N.cond (N.gt s1.2.1 0)
            (
              N.bind (spec_l26Draw s1.2.2 r1.1) fun r3 =>
                N.ite (N.fits s1.1 [r3.1] 32)
                  (some (.inl (N.app s1.1 [r3.1], N.sub .i64 s1.2.1 1, r3.2)))
                  none)
            (some (.inr (r1.1, s1.1, s1.2.2))))
        ([], r2.1, r2.2)

noncomputable def spec_DrawFirstSeen (x0 : List Int) : Option ((List Int) × (List Statement) × Int) :=
  N.bind (spec_l1New x0) fun r1 =>
    N.bind (spec_l26List r1) fun r2 =>
      N.bind (spec_l1Below r2.2.2 4) fun r3 =>
        some (r2.1, r2.2.1, r3.1)

noncomputable def spec_DrawProvenBy (x0 : List Int) : Option ((List Int) × (List Statement) × Int × Int) :=
  N.bind (spec_DrawFirstSeen x0) fun r1 =>
    N.bind (spec_l1New x0) fun r2 =>
      N.bind (spec_l1Int r2 [0, 1, 2, 3, (-1), 9223372036854775807]) fun r3 =>
        some (r1.1, r1.2.1, r1.2.2, r3.1)

noncomputable def spec_DrawSealStatement (x0 : List Int) : Option (Int × Statement) :=
  N.bind (spec_l1New x0) fun r1 =>
    N.bind (spec_l26Keys r1) fun r2 =>
      N.bind (spec_l1Int r2.2 [11, 12, 0, (-1)]) fun r3 =>
        N.bind (spec_l26Draw r3.2 r2.1) fun r4 =>
          some (r3.1, r4.1)

noncomputable def impl_CountHonest (x0 : List Int) (x1 : List Statement) : Option (Int) :=
  loopF (fun (s1 : Int × Int) =>
      N.cond (N.lt s1.2 (N.len x1))
        (
          N.ite (0 ≤ s1.2)
            (
              N.ite (s1.2 < N.len x1)
                (
                  N.bind (impl_IsStatement x0 (N.rd x1 s1.2 (0, 0, 0, 0))) fun r1 =>
                    N.cond r1
                      (some (.inl (N.add .i64 s1.1 1, N.add .i64 s1.2 1)))
                      (some (.inl (s1.1, N.add .i64 s1.2 1))))
                none)
            none)
        (some (.inr s1.1)))
    (0, 0)

noncomputable def laws_FnProven (x0 : List Int) : Option (Bool) :=
  N.bind (laws_big x0) fun r1 =>
    N.cond r1
      (some true)
      (
        N.bind (spec_DrawProvenBy x0) fun r2 =>
          N.bind (impl_ProvenBy r2.1 r2.2.1 r2.2.2.1 r2.2.2.2) fun r3 =>
            N.bind (impl_FirstSeen r2.1 r2.2.1 r2.2.2.1) fun r4 =>
              loopF (fun (s1 : Int × Int × Int) =>
                  N.cond (N.lt s1.2.2 (N.len r4))
                    (
                      N.ite (0 ≤ s1.2.2)
                        (
                          N.ite (s1.2.2 < N.len r4)
                            (
                              N.cond (N.ge (N.rd r4 s1.2.2 0) 0)
                                (
                                  N.ite (0 ≤ s1.2.2)
                                    (
                                      N.ite (s1.2.2 < N.len r4)
                                        (
                                          N.cond (N.ge (N.rd r4 s1.2.2 0) 0)
                                            (
                                              N.ite (0 ≤ s1.2.2)
                                                (
                                                  N.ite (s1.2.2 < N.len r4)
                                                    (
                                                      N.cond (N.lt (N.rd r4 s1.2.2 0) r3)
                                                        (some (.inl (N.add .i64 s1.1 1, N.add .i64 s1.2.1 1, N.add .i64 s1.2.2 1)))
                                                        (some (.inl (s1.1, N.add .i64 s1.2.1 1, N.add .i64 s1.2.2 1))))
                                                    none)
                                                none)
                                            (some (.inl (s1.1, N.add .i64 s1.2.1 1, N.add .i64 s1.2.2 1))))
                                        none)
                                    none)
                                (
                                  N.ite (0 ≤ s1.2.2)
                                    (
                                      N.ite (s1.2.2 < N.len r4)
                                        (
                                          N.cond (N.ge (N.rd r4 s1.2.2 0) 0)
                                            (
                                              N.ite (0 ≤ s1.2.2)
                                                (
                                                  N.ite (s1.2.2 < N.len r4)
                                                    (
                                                      N.cond (N.lt (N.rd r4 s1.2.2 0) r3)
                                                        (some (.inl (N.add .i64 s1.1 1, s1.2.1, N.add .i64 s1.2.2 1)))
                                                        (some (.inl (s1.1, s1.2.1, N.add .i64 s1.2.2 1))))
                                                    none)
                                                none)
                                            (some (.inl (s1.1, s1.2.1, N.add .i64 s1.2.2 1))))
                                        none)
                                    none))
                            none)
                        none)
                    (
                      Option.map Sum.inr
                        (
                          N.cond (N.ge r2.2.2.2 0)
                            (
                              N.cond (N.neB (N.ge r3 0) (N.lt r2.2.2.2 s1.2.1))
                                (some false)
                                (
                                  N.cond (N.ge r3 0)
                                    (
                                      N.cond (N.gt s1.1 r2.2.2.2)
                                        (some false)
                                        (
                                          N.cond (N.gt (N.len r2.1) 1)
                                            (
                                              N.cond (N.ge r3 0)
                                                (
                                                  N.cond (N.ge r2.2.2.2 1)
                                                    (
                                                      N.ite (N.fits [] r2.2.1 32)
                                                        (
                                                          N.ite (0 < N.len r2.1)
                                                            (
                                                              N.bind (impl_SealStatement (N.rd r2.1 0 0) (0, r2.2.2.1, 0, 0)) fun r5 =>
                                                                N.ite (N.fits (N.app [] r2.2.1) [r5] 32)
                                                                  (
                                                                    loopF (fun (s2 : Int × Int) =>
                                                                        N.cond (N.lt s2.2 (N.len r4))
                                                                          (
                                                                            N.ite (0 ≤ s2.2)
                                                                              (
                                                                                N.ite (s2.2 < N.len r4)
                                                                                  (
                                                                                    N.cond (N.ge (N.rd r4 s2.2 0) 0)
                                                                                      (
                                                                                        N.cond (N.lt s2.1 0)
                                                                                          (
                                                                                            N.ite (0 ≤ s2.2)
                                                                                              (
                                                                                                N.ite (s2.2 < N.len r4)
                                                                                                  (some (.inl (N.rd r4 s2.2 0, N.add .i64 s2.2 1)))
                                                                                                  none)
                                                                                              none)
                                                                                          (
                                                                                            N.ite (0 ≤ s2.2)
                                                                                              (
                                                                                                N.ite (s2.2 < N.len r4)
                                                                                                  (
                                                                                                    N.cond (N.lt (N.rd r4 s2.2 0) s2.1)
                                                                                                      (
                                                                                                        N.ite (0 ≤ s2.2)
                                                                                                          (
                                                                                                            N.ite (s2.2 < N.len r4)
                                                                                                              (some (.inl (N.rd r4 s2.2 0, N.add .i64 s2.2 1)))
                                                                                                              none)
                                                                                                          none)
                                                                                                      (some (.inl (s2.1, N.add .i64 s2.2 1))))
                                                                                                  none)
                                                                                              none))
                                                                                      (some (.inl (s2.1, N.add .i64 s2.2 1))))
                                                                                  none)
                                                                              none)
                                                                          (
                                                                            Option.map Sum.inr
                                                                              (
                                                                                N.bind (impl_ProvenBy r2.1 (N.app (N.app [] r2.2.1) [r5]) r2.2.2.1 r2.2.2.2) fun r6 =>
                                                                                  N.cond (N.ge s2.1 0)
                                                                                    (
                                                                                      N.cond (N.ge r6 0)
                                                                                        (
                                                                                          N.cond (N.lt r6 s2.1)
                                                                                            (some false)
                                                                                            (
                                                                                              N.bind (spec_DrawSealStatement x0) fun r7 =>
                                                                                                N.bind (impl_SealStatement r7.1 r7.2) fun r8 =>
                                                                                                  N.bind (impl_IsValidKey r7.1) fun r9 =>
                                                                                                    N.cond (N.eqB (N.eq r8.2.2.2 0) (N.not r9))
                                                                                                      (
                                                                                                        N.bind (impl_CountHonest r2.1 r2.2.1) fun r10 =>
                                                                                                          some (N.le r10 (N.len r2.2.1)))
                                                                                                      (some false)))
                                                                                        (
                                                                                          N.bind (spec_DrawSealStatement x0) fun r11 =>
                                                                                            N.bind (impl_SealStatement r11.1 r11.2) fun r12 =>
                                                                                              N.bind (impl_IsValidKey r11.1) fun r13 =>
                                                                                                N.cond (N.eqB (N.eq r12.2.2.2 0) (N.not r13))
                                                                                                  (
                                                                                                    N.bind (impl_CountHonest r2.1 r2.2.1) fun r14 =>
                                                                                                      some (N.le r14 (N.len r2.2.1)))
                                                                                                  (some false)))
                                                                                    (
                                                                                      N.bind (spec_DrawSealStatement x0) fun r15 =>
                                                                                        N.bind (impl_SealStatement r15.1 r15.2) fun r16 =>
                                                                                          N.bind (impl_IsValidKey r15.1) fun r17 =>
                                                                                            N.cond (N.eqB (N.eq r16.2.2.2 0) (N.not r17))
                                                                                              (
                                                                                                N.bind (impl_CountHonest r2.1 r2.2.1) fun r18 =>
                                                                                                  some (N.le r18 (N.len r2.2.1)))
                                                                                              (some false)))))
                                                                      ((-1), 1))
                                                                  none)
                                                            none)
                                                        none)
                                                    (
                                                      N.bind (spec_DrawSealStatement x0) fun r19 =>
                                                        N.bind (impl_SealStatement r19.1 r19.2) fun r20 =>
                                                          N.bind (impl_IsValidKey r19.1) fun r21 =>
                                                            N.cond (N.eqB (N.eq r20.2.2.2 0) (N.not r21))
                                                              (
                                                                N.bind (impl_CountHonest r2.1 r2.2.1) fun r22 =>
                                                                  some (N.le r22 (N.len r2.2.1)))
                                                              (some false)))
                                                (
                                                  N.bind (spec_DrawSealStatement x0) fun r23 =>
                                                    N.bind (impl_SealStatement r23.1 r23.2) fun r24 =>
                                                      N.bind (impl_IsValidKey r23.1) fun r25 =>
                                                        N.cond (N.eqB (N.eq r24.2.2.2 0) (N.not r25))
                                                          (
                                                            N.bind (impl_CountHonest r2.1 r2.2.1) fun r26 =>
                                                              some (N.le r26 (N.len r2.2.1)))
                                                          (some false)))
                                            (
                                              N.bind (spec_DrawSealStatement x0) fun r27 =>
                                                N.bind (impl_SealStatement r27.1 r27.2) fun r28 =>
                                                  N.bind (impl_IsValidKey r27.1) fun r29 =>
                                                    N.cond (N.eqB (N.eq r28.2.2.2 0) (N.not r29))
                                                      (
                                                        N.bind (impl_CountHonest r2.1 r2.2.1) fun r30 =>
                                                          some (N.le r30 (N.len r2.2.1)))
                                                      (some false))))
                                    (
                                      N.cond (N.gt (N.len r2.1) 1)
                                        (
                                          N.cond (N.ge r3 0)
                                            (
                                              N.cond (N.ge r2.2.2.2 1)
                                                (
                                                  N.ite (N.fits [] r2.2.1 32)
                                                    (
                                                      N.ite (0 < N.len r2.1)
                                                        (
                                                          N.bind (impl_SealStatement (N.rd r2.1 0 0) (0, r2.2.2.1, 0, 0)) fun r31 =>
                                                            N.ite (N.fits (N.app [] r2.2.1) [r31] 32)
                                                              (
                                                                loopF (fun (s3 : Int × Int) =>
                                                                    N.cond (N.lt s3.2 (N.len r4))
                                                                      (
                                                                        N.ite (0 ≤ s3.2)
                                                                          (
                                                                            N.ite (s3.2 < N.len r4)
                                                                              (
                                                                                N.cond (N.ge (N.rd r4 s3.2 0) 0)
                                                                                  (
                                                                                    N.cond (N.lt s3.1 0)
                                                                                      (
                                                                                        N.ite (0 ≤ s3.2)
                                                                                          (
                                                                                            N.ite (s3.2 < N.len r4)
                                                                                              (some (.inl (N.rd r4 s3.2 0, N.add .i64 s3.2 1)))
                                                                                              none)
                                                                                          none)
                                                                                      (
                                                                                        N.ite (0 ≤ s3.2)
                                                                                          (
                                                                                            N.ite (s3.2 < N.len r4)
                                                                                              (
                                                                                                N.cond (N.lt (N.rd r4 s3.2 0) s3.1)
                                                                                                  (
                                                                                                    N.ite (0 ≤ s3.2)
                                                                                                      (
                                                                                                        N.ite (s3.2 < N.len r4)
                                                                                                          (some (.inl (N.rd r4 s3.2 0, N.add .i64 s3.2 1)))
                                                                                                          none)
                                                                                                      none)
                                                                                                  (some (.inl (s3.1, N.add .i64 s3.2 1))))
                                                                                              none)
                                                                                          none))
                                                                                  (some (.inl (s3.1, N.add .i64 s3.2 1))))
                                                                              none)
                                                                          none)
                                                                      (
                                                                        Option.map Sum.inr
                                                                          (
                                                                            N.bind (impl_ProvenBy r2.1 (N.app (N.app [] r2.2.1) [r31]) r2.2.2.1 r2.2.2.2) fun r32 =>
                                                                              N.cond (N.ge s3.1 0)
                                                                                (
                                                                                  N.cond (N.ge r32 0)
                                                                                    (
                                                                                      N.cond (N.lt r32 s3.1)
                                                                                        (some false)
                                                                                        (
                                                                                          N.bind (spec_DrawSealStatement x0) fun r33 =>
                                                                                            N.bind (impl_SealStatement r33.1 r33.2) fun r34 =>
                                                                                              N.bind (impl_IsValidKey r33.1) fun r35 =>
                                                                                                N.cond (N.eqB (N.eq r34.2.2.2 0) (N.not r35))
                                                                                                  (
                                                                                                    N.bind (impl_CountHonest r2.1 r2.2.1) fun r36 =>
                                                                                                      some (N.le r36 (N.len r2.2.1)))
                                                                                                  (some false)))
                                                                                    (
                                                                                      N.bind (spec_DrawSealStatement x0) fun r37 =>
                                                                                        N.bind (impl_SealStatement r37.1 r37.2) fun r38 =>
                                                                                          N.bind (impl_IsValidKey r37.1) fun r39 =>
                                                                                            N.cond (N.eqB (N.eq r38.2.2.2 0) (N.not r39))
                                                                                              (
                                                                                                N.bind (impl_CountHonest r2.1 r2.2.1) fun r40 =>
                                                                                                  some (N.le r40 (N.len r2.2.1)))
                                                                                              (some false)))
                                                                                (
                                                                                  N.bind (spec_DrawSealStatement x0) fun r41 =>
                                                                                    N.bind (impl_SealStatement r41.1 r41.2) fun r42 =>
                                                                                      N.bind (impl_IsValidKey r41.1) fun r43 =>
                                                                                        N.cond (N.eqB (N.eq r42.2.2.2 0) (N.not r43))
                                                                                          (
                                                                                            N.bind (impl_CountHonest r2.1 r2.2.1) fun r44 =>
                                                                                              some (N.le r44 (N.len r2.2.1)))
                                                                                          (some false)))))
                                                                  ((-1), 1))
                                                              none)
                                                        none)
                                                    none)
                                                (
                                                  N.bind (spec_DrawSealStatement x0) fun r45 =>
                                                    N.bind (impl_SealStatement r45.1 r45.2) fun r46 =>
                                                      N.bind (impl_IsValidKey r45.1) fun r47 =>
                                                        N.cond (N.eqB (N.eq r46.2.2.2 0) (N.not r47))
                                                          (
                                                            N.bind (impl_CountHonest r2.1 r2.2.1) fun r48 =>
                                                              some (N.le r48 (N.len r2.2.1)))
                                                          (some false)))
                                            (
                                              N.bind (spec_DrawSealStatement x0) fun r49 =>
                                                N.bind (impl_SealStatement r49.1 r49.2) fun r50 =>
                                                  N.bind (impl_IsValidKey r49.1) fun r51 =>
                                                    N.cond (N.eqB (N.eq r50.2.2.2 0) (N.not r51))
                                                      (
                                                        N.bind (impl_CountHonest r2.1 r2.2.1) fun r52 =>
                                                          some (N.le r52 (N.len r2.2.1)))
                                                      (some false)))
                                        (
                                          N.bind (spec_DrawSealStatement x0) fun r53 =>
                                            N.bind (impl_SealStatement r53.1 r53.2) fun r54 =>
                                              N.bind (impl_IsValidKey r53.1) fun r55 =>
                                                N.cond (N.eqB (N.eq r54.2.2.2 0) (N.not r55))
                                                  (
                                                    N.bind (impl_CountHonest r2.1 r2.2.1) fun r56 =>
                                                      some (N.le r56 (N.len r2.2.1)))
                                                  (some false)))))
                            (
                              N.cond (N.neB (N.ge r3 0) false)
                                (some false)
                                (
                                  N.cond (N.ge r3 0)
                                    (
                                      N.cond (N.gt s1.1 r2.2.2.2)
                                        (some false)
                                        (
                                          N.cond (N.gt (N.len r2.1) 1)
                                            (
                                              N.cond (N.ge r3 0)
                                                (
                                                  N.cond (N.ge r2.2.2.2 1)
                                                    (
                                                      N.ite (N.fits [] r2.2.1 32)
                                                        (
                                                          N.ite (0 < N.len r2.1)
                                                            (
                                                              N.bind (impl_SealStatement (N.rd r2.1 0 0) (0, r2.2.2.1, 0, 0)) fun r57 =>
                                                                N.ite (N.fits (N.app [] r2.2.1) [r57] 32)
                                                                  (
                                                                    loopF (fun (s4 : Int × Int) =>
                                                                        N.cond (N.lt s4.2 (N.len r4))
                                                                          (
                                                                            N.ite (0 ≤ s4.2)
                                                                              (
                                                                                N.ite (s4.2 < N.len r4)
                                                                                  (
                                                                                    N.cond (N.ge (N.rd r4 s4.2 0) 0)
                                                                                      (
                                                                                        N.cond (N.lt s4.1 0)
                                                                                          (
                                                                                            N.ite (0 ≤ s4.2)
                                                                                              (
                                                                                                N.ite (s4.2 < N.len r4)
                                                                                                  (some (.inl (N.rd r4 s4.2 0, N.add .i64 s4.2 1)))
                                                                                                  none)
                                                                                              none)
                                                                                          (
                                                                                            N.ite (0 ≤ s4.2)
                                                                                              (
                                                                                                N.ite (s4.2 < N.len r4)
                                                                                                  (
                                                                                                    N.cond (N.lt (N.rd r4 s4.2 0) s4.1)
                                                                                                      (
                                                                                                        N.ite (0 ≤ s4.2)
                                                                                                          (
                                                                                                            N.ite (s4.2 < N.len r4)
                                                                                                              (some (.inl (N.rd r4 s4.2 0, N.add .i64 s4.2 1)))
                                                                                                              none)
                                                                                                          none)
                                                                                                      (some (.inl (s4.1, N.add .i64 s4.2 1))))
                                                                                                  none)
                                                                                              none))
                                                                                      (some (.inl (s4.1, N.add .i64 s4.2 1))))
                                                                                  none)
                                                                              none)
                                                                          (
                                                                            Option.map Sum.inr
                                                                              (
                                                                                N.bind (impl_ProvenBy r2.1 (N.app (N.app [] r2.2.1) [r57]) r2.2.2.1 r2.2.2.2) fun r58 =>
                                                                                  N.cond (N.ge s4.1 0)
                                                                                    (
                                                                                      N.cond (N.ge r58 0)
                                                                                        (
                                                                                          N.cond (N.lt r58 s4.1)
                                                                                            (some false)
                                                                                            (
                                                                                              N.bind (spec_DrawSealStatement x0) fun r59 =>
                                                                                                N.bind (impl_SealStatement r59.1 r59.2) fun r60 =>
                                                                                                  N.bind (impl_IsValidKey r59.1) fun r61 =>
                                                                                                    N.cond (N.eqB (N.eq r60.2.2.2 0) (N.not r61))
                                                                                                      (
                                                                                                        N.bind (impl_CountHonest r2.1 r2.2.1) fun r62 =>
                                                                                                          some (N.le r62 (N.len r2.2.1)))
                                                                                                      (some false)))
                                                                                        (
                                                                                          N.bind (spec_DrawSealStatement x0) fun r63 =>
                                                                                            N.bind (impl_SealStatement r63.1 r63.2) fun r64 =>
                                                                                              N.bind (impl_IsValidKey r63.1) fun r65 =>
                                                                                                N.cond (N.eqB (N.eq r64.2.2.2 0) (N.not r65))
                                                                                                  (
                                                                                                    N.bind (impl_CountHonest r2.1 r2.2.1) fun r66 =>
                                                                                                      some (N.le r66 (N.len r2.2.1)))
                                                                                                  (some false)))
                                                                                    (
                                                                                      N.bind (spec_DrawSealStatement x0) fun r67 =>
                                                                                        N.bind (impl_SealStatement r67.1 r67.2) fun r68 =>
                                                                                          N.bind (impl_IsValidKey r67.1) fun r69 =>
                                                                                            N.cond (N.eqB (N.eq r68.2.2.2 0) (N.not r69))
                                                                                              (
                                                                                                N.bind (impl_CountHonest r2.1 r2.2.1) fun r70 =>
                                                                                                  some (N.le r70 (N.len r2.2.1)))
                                                                                              (some false)))))
                                                                      ((-1), 1))
                                                                  none)
                                                            none)
                                                        none)
                                                    (
                                                      N.bind (spec_DrawSealStatement x0) fun r71 =>
                                                        N.bind (impl_SealStatement r71.1 r71.2) fun r72 =>
                                                          N.bind (impl_IsValidKey r71.1) fun r73 =>
                                                            N.cond (N.eqB (N.eq r72.2.2.2 0) (N.not r73))
                                                              (
                                                                N.bind (impl_CountHonest r2.1 r2.2.1) fun r74 =>
                                                                  some (N.le r74 (N.len r2.2.1)))
                                                              (some false)))
                                                (
                                                  N.bind (spec_DrawSealStatement x0) fun r75 =>
                                                    N.bind (impl_SealStatement r75.1 r75.2) fun r76 =>
                                                      N.bind (impl_IsValidKey r75.1) fun r77 =>
                                                        N.cond (N.eqB (N.eq r76.2.2.2 0) (N.not r77))
                                                          (
                                                            N.bind (impl_CountHonest r2.1 r2.2.1) fun r78 =>
                                                              some (N.le r78 (N.len r2.2.1)))
                                                          (some false)))
                                            (
                                              N.bind (spec_DrawSealStatement x0) fun r79 =>
                                                N.bind (impl_SealStatement r79.1 r79.2) fun r80 =>
                                                  N.bind (impl_IsValidKey r79.1) fun r81 =>
                                                    N.cond (N.eqB (N.eq r80.2.2.2 0) (N.not r81))
                                                      (
                                                        N.bind (impl_CountHonest r2.1 r2.2.1) fun r82 =>
                                                          some (N.le r82 (N.len r2.2.1)))
                                                      (some false))))
                                    (
                                      N.cond (N.gt (N.len r2.1) 1)
                                        (
                                          N.cond (N.ge r3 0)
                                            (
                                              N.cond (N.ge r2.2.2.2 1)
                                                (
                                                  N.ite (N.fits [] r2.2.1 32)
                                                    (
                                                      N.ite (0 < N.len r2.1)
                                                        (
                                                          N.bind (impl_SealStatement (N.rd r2.1 0 0) (0, r2.2.2.1, 0, 0)) fun r83 =>
                                                            N.ite (N.fits (N.app [] r2.2.1) [r83] 32)
                                                              (
                                                                loopF (fun (s5 : Int × Int) =>
                                                                    N.cond (N.lt s5.2 (N.len r4))
                                                                      (
                                                                        N.ite (0 ≤ s5.2)
                                                                          (
                                                                            N.ite (s5.2 < N.len r4)
                                                                              (
                                                                                N.cond (N.ge (N.rd r4 s5.2 0) 0)
                                                                                  (
                                                                                    N.cond (N.lt s5.1 0)
                                                                                      (
                                                                                        N.ite (0 ≤ s5.2)
                                                                                          (
                                                                                            N.ite (s5.2 < N.len r4)
                                                                                              (some (.inl (N.rd r4 s5.2 0, N.add .i64 s5.2 1)))
                                                                                              none)
                                                                                          none)
                                                                                      (
                                                                                        N.ite (0 ≤ s5.2)
                                                                                          (
                                                                                            N.ite (s5.2 < N.len r4)
                                                                                              (
                                                                                                N.cond (N.lt (N.rd r4 s5.2 0) s5.1)
                                                                                                  (
                                                                                                    N.ite (0 ≤ s5.2)
                                                                                                      (
                                                                                                        N.ite (s5.2 < N.len r4)
                                                                                                          (some (.inl (N.rd r4 s5.2 0, N.add .i64 s5.2 1)))
                                                                                                          none)
                                                                                                      none)
                                                                                                  (some (.inl (s5.1, N.add .i64 s5.2 1))))
                                                                                              none)
                                                                                          none))
                                                                                  (some (.inl (s5.1, N.add .i64 s5.2 1))))
                                                                              none)
                                                                          none)
                                                                      (
                                                                        Option.map Sum.inr
                                                                          (
                                                                            N.bind (impl_ProvenBy r2.1 (N.app (N.app [] r2.2.1) [r83]) r2.2.2.1 r2.2.2.2) fun r84 =>
                                                                              N.cond (N.ge s5.1 0)
                                                                                (
                                                                                  N.cond (N.ge r84 0)
                                                                                    (
                                                                                      N.cond (N.lt r84 s5.1)
                                                                                        (some false)
                                                                                        (
                                                                                          N.bind (spec_DrawSealStatement x0) fun r85 =>
                                                                                            N.bind (impl_SealStatement r85.1 r85.2) fun r86 =>
                                                                                              N.bind (impl_IsValidKey r85.1) fun r87 =>
                                                                                                N.cond (N.eqB (N.eq r86.2.2.2 0) (N.not r87))
                                                                                                  (
                                                                                                    N.bind (impl_CountHonest r2.1 r2.2.1) fun r88 =>
                                                                                                      some (N.le r88 (N.len r2.2.1)))
                                                                                                  (some false)))
                                                                                    (
                                                                                      N.bind (spec_DrawSealStatement x0) fun r89 =>
                                                                                        N.bind (impl_SealStatement r89.1 r89.2) fun r90 =>
                                                                                          N.bind (impl_IsValidKey r89.1) fun r91 =>
                                                                                            N.cond (N.eqB (N.eq r90.2.2.2 0) (N.not r91))
                                                                                              (
                                                                                                N.bind (impl_CountHonest r2.1 r2.2.1) fun r92 =>
                                                                                                  some (N.le r92 (N.len r2.2.1)))
                                                                                              (some false)))
                                                                                (
                                                                                  N.bind (spec_DrawSealStatement x0) fun r93 =>
                                                                                    N.bind (impl_SealStatement r93.1 r93.2) fun r94 =>
                                                                                      N.bind (impl_IsValidKey r93.1) fun r95 =>
                                                                                        N.cond (N.eqB (N.eq r94.2.2.2 0) (N.not r95))
                                                                                          (
                                                                                            N.bind (impl_CountHonest r2.1 r2.2.1) fun r96 =>
                                                                                              some (N.le r96 (N.len r2.2.1)))
                                                                                          (some false)))))
                                                                  ((-1), 1))
                                                              none)
                                                        none)
                                                    none)
                                                (
                                                  N.bind (spec_DrawSealStatement x0) fun r97 =>
                                                    N.bind (impl_SealStatement r97.1 r97.2) fun r98 =>
                                                      N.bind (impl_IsValidKey r97.1) fun r99 =>
                                                        N.cond (N.eqB (N.eq r98.2.2.2 0) (N.not r99))
                                                          (
                                                            N.bind (impl_CountHonest r2.1 r2.2.1) fun r100 =>
                                                              some (N.le r100 (N.len r2.2.1)))
                                                          (some false)))
                                            (
                                              N.bind (spec_DrawSealStatement x0) fun r101 =>
                                                N.bind (impl_SealStatement r101.1 r101.2) fun r102 =>
                                                  N.bind (impl_IsValidKey r101.1) fun r103 =>
                                                    N.cond (N.eqB (N.eq r102.2.2.2 0) (N.not r103))
                                                      (
                                                        N.bind (impl_CountHonest r2.1 r2.2.1) fun r104 =>
                                                          some (N.le r104 (N.len r2.2.1)))
                                                      (some false)))
                                        (
                                          N.bind (spec_DrawSealStatement x0) fun r105 =>
                                            N.bind (impl_SealStatement r105.1 r105.2) fun r106 =>
                                              N.bind (impl_IsValidKey r105.1) fun r107 =>
                                                N.cond (N.eqB (N.eq r106.2.2.2 0) (N.not r107))
                                                  (
                                                    N.bind (impl_CountHonest r2.1 r2.2.1) fun r108 =>
                                                      some (N.le r108 (N.len r2.2.1)))
                                                  (some false))))))))
                (0, 0, 0))

end D
end Go.Sh
set_option linter.unusedVariables false
set_option linter.unusedSimpArgs false
namespace Go.Sh
open Go
/-! ## Loops -/
theorem loopN_det {S R : Type} {step : S → Option (S ⊕ R)} : ∀ {n m : Nat} {s : S} {a b : R}, loopN step n s = some a → loopN step m s = some b → a = b
  | 0, _, _, _, _, h, _ => by simp [loopN] at h
  | _ + 1, 0, _, _, _, _, h => by simp [loopN] at h
  | n + 1, m + 1, s, a, b, h1, h2 => by
    simp only [loopN] at h1 h2
    split at h1
    · cases h1
    · rename_i s' hs; rw [hs] at h2; exact loopN_det h1 h2
    · rename_i r hr; rw [hr] at h2; simp at h1 h2; rw [← h1, ← h2]

theorem loopF_of {S R : Type} {step : S → Option (S ⊕ R)} {s : S} {n : Nat} {r : R} (h : loopN step n s = some r) : loopF step s = some r := by
  have hx : ∃ n r, loopN step n s = some r := ⟨n, r, h⟩
  unfold loopF
  rw [dif_pos hx]
  obtain ⟨m, hm⟩ := Classical.choose_spec hx |> fun h => (⟨_, Classical.choose_spec h⟩ : ∃ v, loopN step (Classical.choose hx) s = some v)
  have := Classical.choose_spec (Classical.choose_spec hx)
  rw [loopN_det this h]

theorem loopF_inr {S R : Type} {step : S → Option (S ⊕ R)} {s : S} {r : R} (h : step s = some (.inr r)) : loopF step s = some r :=
  loopF_of (n := 1) (by simp [loopN, h])

theorem loopF_inl {S R : Type} {step : S → Option (S ⊕ R)} {s s' : S} (h : step s = some (.inl s')) : loopF step s = loopF step s' := by
  by_cases hx : ∃ n r, loopN step n s' = some r
  · obtain ⟨n, r, hn⟩ := hx
    rw [loopF_of hn, loopF_of (n := n + 1) (r := r) (by simp [loopN, h, hn])]
  · have hy : ¬ ∃ n r, loopN step n s = some r := by
      rintro ⟨n, r, hn⟩
      cases n with
      | zero => simp [loopN] at hn
      | succ n => simp only [loopN, h] at hn; exact hx ⟨n, r, hn⟩
    unfold loopF
    rw [dif_neg hx, dif_neg hy]

/-- counting up to n -/
theorem loop_upto {σ S R : Type} {step : S → Option (S ⊕ R)} (n : Nat) (emb : Nat → σ → S) (st : Nat → σ) (r : R)
    (hstep : ∀ k < n, step (emb k (st k)) = some (.inl (emb (k + 1) (st (k + 1))))) (hend : step (emb n (st n)) = some (.inr r)) : loopF step (emb 0 (st 0)) = some r := by
  have key : ∀ (m k : Nat), k + m = n → loopF step (emb k (st k)) = some r := by
    intro m
    induction m with
    | zero => intro k hk; have : k = n := by omega
              subst this; exact loopF_inr hend
    | succ m ih => intro k hk; rw [loopF_inl (hstep k (by omega))]; exact ih (k + 1) (by omega)
  exact key n 0 (by omega)

/-! ## Words -/

section
variable {R α β : Type}
@[simp] theorem bind_some' (x : β) (f : β → Option R) : N.bind (some x) f = f x := rfl

@[simp] theorem cond_true (x y : Option R) : N.cond true x y = x := rfl

@[simp] theorem cond_false (x y : Option R) : N.cond false x y = y := rfl

theorem cond_if (b : Bool) (x y : Option R) : N.cond b x y = if b = true then x else y := rfl

theorem cond_dec (p : Prop) [Decidable p] (x y : Option R) : N.cond (decide p) x y = if p then x else y := by unfold N.cond; by_cases h : p <;> simp [h]

theorem ite_if (c : Prop) [Decidable c] (x y : Option R) : N.ite c x y = if c then x else y := rfl

theorem nite_pos {c : Prop} [Decidable c] (h : c) (x y : Option R) : N.ite c x y = x := if_pos h

theorem nite_neg {c : Prop} [Decidable c] (h : ¬ c) (x y : Option R) : N.ite c x y = y := if_neg h

theorem lt_d (a b : Int) : N.lt a b = decide (a < b) := rfl

theorem le_d (a b : Int) : N.le a b = decide (a ≤ b) := rfl

theorem gt_d (a b : Int) : N.gt a b = decide (b < a) := rfl

theorem ge_d (a b : Int) : N.ge a b = decide (b ≤ a) := rfl

theorem eq_d (a b : Int) : N.eq a b = decide (a = b) := rfl

theorem len_d (xs : List α) : N.len xs = (xs.length : Int) := by simp [N.len]

theorem rd_at (xs : List α) (k : Nat) (hk : k < xs.length) (d : α) : N.rd xs (k : Int) d = xs[k] := by
  simp [N.rd, List.getD, hk]

theorem wrap_id {n : Int} (h1 : -9223372036854775808 ≤ n) (h2 : n < 9223372036854775808) : IntKind.i64.wrap n = n := by
  have e1 : ((2 : Int) ^ IntKind.i64.bits) = 18446744073709551616 := by decide
  have e2 : ((2 : Int) ^ (IntKind.i64.bits - 1)) = 9223372036854775808 := by decide
  have e3 : IntKind.i64.signed = true := rfl
  unfold IntKind.wrap
  rw [e1, e2, e3]
  simp only [Bool.true_and, decide_eq_true_eq]
  split <;> omega

theorem add_id {a b : Int} (h1 : -9223372036854775808 ≤ a + b) (h2 : a + b < 9223372036854775808) : N.add .i64 a b = a + b := wrap_id h1 h2

theorem sub_id {a b : Int} (h1 : -9223372036854775808 ≤ a - b) (h2 : a - b < 9223372036854775808) : N.sub .i64 a b = a - b := wrap_id h1 h2

theorem mul_id {a b : Int} (h1 : -9223372036854775808 ≤ a * b) (h2 : a * b < 9223372036854775808) : N.mul .i64 a b = a * b := wrap_id h1 h2

theorem next_id {k n : Nat} (hk : k < n) (hn : (n : Int) < 9223372036854775808) : N.add .i64 (k : Int) 1 = ((k + 1 : Nat) : Int) := by
  rw [add_id (by omega) (by omega)]; omega

end
end Go.Sh
set_option linter.unusedVariables false
set_option linter.unusedSimpArgs false
namespace Go.Sh
open Go
/-! ## Bounds of data -/
class Data (α : Type) where
  bd : α → Prop
  ok : α → Prop
  le : ∀ x, ok x → bd x

open Data
instance : Data Int := ⟨fun x => -9223372036854775808 ≤ x ∧ x < 9223372036854775808, fun x => -9223372036854775808 ≤ x ∧ x < 9223372036854775808, fun _ h => h⟩

instance : Data Bool := ⟨fun _ => True, fun _ => True, fun _ h => h⟩

instance : Data ByteArray := ⟨fun s => s.size ≤ 4611686018427387904, fun s => s.size ≤ 4611686018427387904, fun _ h => h⟩

instance {α β : Type} [Data α] [Data β] : Data (α × β) := ⟨fun x => bd x.1 ∧ bd x.2, fun x => ok x.1 ∧ ok x.2, fun x h => ⟨le _ h.1, le _ h.2⟩⟩

instance {α : Type} [Data α] : Data (List α) := ⟨fun xs => xs.length ≤ 4611686018427387904 ∧ ∀ x ∈ xs, bd x, fun xs => xs.length ≤ 1048576 ∧ ∀ x ∈ xs, ok x, fun xs h => ⟨by omega, fun x hx => le x (h.2 x hx)⟩⟩

section
variable {α : Type} [Data α]
theorem Data.ok.sub {xs ys : List α} (h : ok xs) (hs : ys.Sublist xs) : ok ys := ⟨Nat.le_trans hs.length_le h.1, fun x hx => h.2 x (hs.subset hx)⟩

end
/-! ## Words, once more -/

section
variable {R α β : Type}
theorem eqB_d (a b : Bool) : N.eqB a b = decide (a = b) := by cases a <;> cases b <;> rfl

theorem not_d (p : Prop) [Decidable p] : N.not (decide p) = decide (¬ p) := by unfold N.not; by_cases h : p <;> simp [h]

theorem both_d (p q : Prop) [Decidable p] [Decidable q] : N.both (decide p) (decide q) = decide (p ∧ q) := by unfold N.both; by_cases h : p <;> by_cases h' : q <;> simp [h, h']

end
end Go.Sh
set_option linter.unusedVariables false
set_option linter.unusedSimpArgs false
set_option synthInstance.maxSize 100000
set_option maxHeartbeats 1000000
namespace Go.Sh
open Go Data
namespace D
end D
end Go.Sh
set_option linter.unusedVariables false
set_option linter.unusedSimpArgs false
set_option synthInstance.maxSize 100000
set_option maxHeartbeats 1000000
namespace Go.Sh
open Go Data
namespace D
theorem spec_l1In_is (a b c : Int) : spec_l1In a b c = some (decide (b ≤ a ∧ a ≤ c)) := by
  unfold spec_l1In
  simp only [ge_d, le_d, cond_dec]
  by_cases h1 : b ≤ a <;> by_cases h2 : a ≤ c <;> simp [h1, h2]

theorem impl_InRange_is (a b c : Int) : impl_InRange a b c = some (decide (b ≤ a ∧ a ≤ c)) := by
  unfold impl_InRange
  simp only [ge_d, le_d, cond_dec]
  by_cases h1 : b ≤ a <;> by_cases h2 : a ≤ c <;> simp [h1, h2]

theorem impl_at_is (a b : Int) : impl_at a b = some (decide (0 ≤ a ∧ a < b)) := by
  unfold impl_at
  simp only [ge_d, lt_d, cond_dec]
  by_cases h1 : 0 ≤ a <;> by_cases h2 : a < b <;> simp [h1, h2]

theorem rem_pos {a b : Int} (ha : 0 ≤ a) : N.rem a b = a % b := by unfold N.rem; exact Int.tmod_eq_emod_of_nonneg ha

theorem mod_core {p q : Int} (h1 : 1 ≤ q) (h2 : q ≤ 1000000000000) : N.rem (N.add .i64 (N.rem p q) q) q = p % q := by
  have hr : -q < p.tmod q ∧ p.tmod q < q := by
    constructor
    · have := Int.lt_tmod_of_pos p (by omega : 0 < q); omega
    · exact Int.tmod_lt_of_pos p (by omega)
  have e : N.add .i64 (N.rem p q) q = p.tmod q + q := add_id (by unfold N.rem; omega) (by unfold N.rem; omega)
  rw [e, rem_pos (by omega)]
  have : p.tmod q % q = p % q := by
    have h := Int.mul_tdiv_add_tmod p q
    conv => rhs; rw [← h]
    simp [Int.add_emod]
  rw [Int.add_emod, Int.emod_self, Int.add_zero, Int.emod_emod_of_dvd _ (Int.dvd_refl q), this]

theorem spec_Mod_is {p q : Int} (h1 : 1 ≤ q) (h2 : q ≤ 1000000000000) : spec_Mod p q = some (p % q) := by
  unfold spec_Mod
  rw [spec_l1In_is, bind_some', not_d, cond_dec, if_neg (by simp; omega), nite_neg (by omega), nite_neg (by omega), mod_core h1 h2]

theorem impl_Mod_is {p q : Int} (h1 : 1 ≤ q) (h2 : q ≤ 1000000000000) : impl_Mod p q = some (p % q) := by
  unfold impl_Mod
  rw [impl_InRange_is, bind_some', not_d, cond_dec, if_neg (by simp; omega), nite_neg (by omega), nite_neg (by omega), mod_core h1 h2]

/-! ## Hash -/
def hash1 (h v : Int) : Int := (h * 1000003 + v % 2147483647 + 13) % 2147483647

def hashP (l : List Int) : Int := l.foldl hash1 11

theorem hash1_in (h v : Int) : 0 ≤ hash1 h v ∧ hash1 h v < 2147483647 := by unfold hash1; omega

theorem hash_fold : ∀ (l : List Int) (h : Int), 0 ≤ h → h < 2147483647 → 0 ≤ l.foldl hash1 h ∧ l.foldl hash1 h < 2147483647
  | [], h, h0, h1 => ⟨h0, h1⟩
  | v :: l, h, _, _ => hash_fold l (hash1 h v) (hash1_in h v).1 (hash1_in h v).2

theorem hash_step {h v : Int} (h0 : 0 ≤ h) (h1 : h < 2147483647) : N.rem (N.add .i64 (N.add .i64 (N.mul .i64 h 1000003) (v % 2147483647)) 13) 2147483647 = hash1 h v := by
  rw [mul_id (by omega) (by omega), add_id (a := h * 1000003) (b := v % 2147483647) (by omega) (by omega), add_id (by omega) (by omega), rem_pos (by omega)]; rfl

def hashBody (mod : Int → Int → Option Int) (l : List Int) (s1 : Int × Int) : Option ((Int × Int) ⊕ Int) :=
  N.cond (N.lt s1.2 (N.len l)) (N.ite (0 ≤ s1.2) (N.ite (s1.2 < N.len l) (N.bind (mod (N.rd l s1.2 0) 2147483647) fun r1 => some (.inl (N.rem (N.add .i64 (N.add .i64 (N.mul .i64 s1.1 1000003) r1) 13) 2147483647, N.add .i64 s1.2 1))) none) none) (some (.inr s1.1))

theorem hash_loop {mod : Int → Int → Option Int} (hm : ∀ v, mod v 2147483647 = some (v % 2147483647)) {l : List Int} (hl : l.length ≤ 4611686018427387904) : loopF (hashBody mod l) (11, 0) = some (hashP l) := by
  refine loop_upto l.length (fun k (h : Int) => (h, (k : Int))) (fun k => (l.take k).foldl hash1 11) (hashP l) (fun k hk => ?_) ?_
  · have hin := hash_fold (l.take k) 11 (by omega) (by omega)
    have hb : hashBody mod l ((l.take k).foldl hash1 11, (k : Int)) = some (.inl (hash1 ((l.take k).foldl hash1 11) l[k], ((k + 1 : Nat) : Int))) := by
      simp only [hashBody, ite_if]; simp only [lt_d, len_d, cond_dec]
      rw [if_pos (by omega), if_pos (by omega), if_pos (by omega), rd_at l k hk, hm, bind_some', hash_step hin.1 hin.2, next_id hk (by omega)]
    simp only [hb, List.take_succ_eq_append_getElem hk, List.foldl_append, List.foldl_cons, List.foldl_nil]
  · simp only [hashBody, lt_d, len_d, cond_dec, List.take_length]
    rw [if_neg (by omega)]; rfl

theorem spec_Hash_is {l : List Int} (hl : l.length ≤ 4611686018427387904) : spec_Hash l = some (hashP l) := hash_loop (mod := spec_Mod) (fun v => spec_Mod_is (by omega) (by omega)) hl

theorem impl_Hash_is {l : List Int} (hl : l.length ≤ 4611686018427387904) : impl_Hash l = some (hashP l) := hash_loop (mod := impl_Mod) (fun v => impl_Mod_is (by omega) (by omega)) hl

theorem fits8 {α : Type} {xs ys : List α} (h : xs.length + ys.length ≤ 17592186044416) : N.fits xs ys 8 := by unfold N.fits; omega

def keyedP (k : Int) (l : List Int) : Int := hashP (([k] ++ l) ++ [k])

theorem spec_KeyedHash_is {k : Int} {l : List Int} (hl : l.length ≤ 10000000) : spec_KeyedHash k l = some (keyedP k l) := by
  unfold spec_KeyedHash
  rw [nite_pos (fits8 (by simp; omega)), nite_pos (fits8 (by simp [N.app]; omega)), spec_Hash_is (by simp [N.app]; omega)]; rfl

theorem impl_KeyedHash_is {k : Int} {l : List Int} (hl : l.length ≤ 10000000) : impl_KeyedHash k l = some (keyedP k l) := by
  unfold impl_KeyedHash
  rw [nite_pos (fits8 (by simp; omega)), nite_pos (fits8 (by simp [N.app]; omega)), impl_Hash_is (by simp [N.app]; omega)]; rfl

def validP (k : Int) : Prop := 1 ≤ k ∧ k ≤ 2147483646

instance (k : Int) : Decidable (validP k) := inferInstanceAs (Decidable (_ ∧ _))

theorem spec_IsValidKey_is (k : Int) : spec_IsValidKey k = some (decide (validP k)) := by unfold spec_IsValidKey; rw [spec_l1In_is]; rfl

theorem impl_IsValidKey_is (k : Int) : impl_IsValidKey k = some (decide (validP k)) := by unfold impl_IsValidKey; rw [impl_InRange_is]; rfl

/-! ## Statements -/
def sealP (k : Int) (s : Statement) : Statement := (s.1, s.2.1, s.2.2.1, if validP k then keyedP k [s.1, s.2.1, s.2.2.1] else 0)

theorem spec_SealStatement_is (k : Int) (s : Statement) : spec_SealStatement k s = some (sealP k s) := by
  unfold spec_SealStatement sealP
  rw [spec_IsValidKey_is, bind_some', cond_dec, spec_KeyedHash_is (by simp), bind_some']
  split <;> rfl

theorem impl_SealStatement_is (k : Int) (s : Statement) : impl_SealStatement k s = some (sealP k s) := by
  unfold impl_SealStatement sealP
  rw [impl_IsValidKey_is, bind_some', cond_dec, impl_KeyedHash_is (by simp), bind_some']
  split <;> rfl

/-- a statement that counts -/
def isStatementP (keys : List Int) (s : Statement) : Bool := decide (keys.length ≤ 7) && decide (0 ≤ s.1 ∧ s.1 < (keys.length : Int)) && decide (validP (N.rd keys s.1 0)) && decide (0 ≤ s.2.2.1 ∧ s.2.2.1 ≤ 2000) && decide (s.2.2.2 = keyedP (N.rd keys s.1 0) [s.1, s.2.1, s.2.2.1])

theorem impl_IsStatement_is (keys : List Int) (s : Statement) : impl_IsStatement keys s = some (isStatementP keys s) := by
  unfold impl_IsStatement isStatementP
  simp only [ite_if]
  simp only [le_d, len_d, cond_dec, impl_at_is, impl_InRange_is, bind_some', impl_IsValidKey_is, impl_SealStatement_is, sealP, eq_d, both_d]
  by_cases h1 : keys.length ≤ 7
  · rw [if_pos (by omega)]
    by_cases h2 : 0 ≤ s.1 ∧ s.1 < (keys.length : Int)
    · rw [if_pos h2, if_pos h2.1, if_pos h2.2]
      by_cases h4 : validP (N.rd keys s.1 0)
      · rw [if_pos h4]
        by_cases h3 : 0 ≤ s.2.2.1 ∧ s.2.2.1 ≤ 2000
        · rw [if_pos h3, if_pos h2.1, if_pos h2.2]
          simp only [h1, h2, h3, h4, if_true, decide_true, Bool.true_and, and_self, true_and]
          by_cases h5 : s.2.2.2 = keyedP (N.rd keys s.1 0) [s.1, s.2.1, s.2.2.1]
          · simp [h5]
          · have : ¬ keyedP (N.rd keys s.1 0) [s.1, s.2.1, s.2.2.1] = s.2.2.2 := fun e => h5 e.symm
            simp [h5, this]
        · rw [if_neg h3]; simp only [h3, decide_false, Bool.and_false, Bool.false_and]
      · rw [if_neg h4]; simp [h4]
    · rw [if_neg h2]; simp only [h2, decide_false, Bool.and_false, Bool.false_and]
  · rw [if_neg (by omega)]; simp [h1]

end D
end Go.Sh
set_option linter.unusedVariables false
set_option linter.unusedSimpArgs false
set_option synthInstance.maxSize 100000
set_option maxHeartbeats 1000000
namespace Go.Sh
open Go Data
namespace D
/-! ## Counts -/

/-- how many of a list, by place -/
def countAt {α : Type} (p : Nat → α → Bool) : List α → Nat → Int
  | [], _ => 0
  | x :: xs, k => (if p k x = true then 1 else 0) + countAt p xs (k + 1)

theorem countAt_le {α : Type} {p : Nat → α → Bool} : ∀ (xs : List α) (k : Nat), 0 ≤ countAt p xs k ∧ countAt p xs k ≤ xs.length
  | [], _ => by simp [countAt]
  | x :: xs, k => by have := countAt_le (p := p) xs (k + 1); simp only [countAt, List.length_cons]; split <;> omega

theorem countAt_append {α : Type} {p : Nat → α → Bool} : ∀ (xs ys : List α) (k : Nat), countAt p (xs ++ ys) k = countAt p xs k + countAt p ys (k + xs.length)
  | [], ys, k => by simp [countAt]
  | x :: xs, ys, k => by simp only [List.cons_append, countAt, countAt_append xs ys (k + 1), List.length_cons]; rw [show k + 1 + xs.length = k + (xs.length + 1) by omega]; omega

theorem loop_count {α : Type} {step : Int × Int → Option ((Int × Int) ⊕ Int)} (xs : List α) (p : Nat → α → Bool) (hl : xs.length ≤ 4611686018427387904)
    (hstep : ∀ (k : Nat) (hk : k < xs.length) (c : Int), step (c, (k : Int)) = some (.inl (if p k xs[k] = true then N.add .i64 c 1 else c, N.add .i64 (k : Int) 1)))
    (hend : ∀ c, step (c, (xs.length : Int)) = some (.inr c)) : loopF step (0, 0) = some (countAt p xs 0) := by
  refine loop_upto (r := countAt p xs 0) xs.length (fun k (c : Int) => (c, (k : Int))) (fun k => countAt p (xs.take k) 0) (fun k hk => ?_) ?_
  · rw [hstep k hk, next_id hk (by omega)]
    congr 3
    rw [List.take_succ_eq_append_getElem hk, countAt_append, List.length_take, Nat.min_eq_left (by omega)]
    have := countAt_le (p := p) (xs.take k) 0
    simp only [List.length_take] at this
    simp only [countAt, Nat.zero_add]
    split
    · rw [add_id (by omega) (by omega)]; omega
    · omega
  · rw [hend, List.take_length]

theorem impl_CountHonest_is {keys : List Int} {l : List Statement} (h : l.length ≤ 4611686018427387904) : impl_CountHonest keys l = some (countAt (fun _ s => isStatementP keys s) l 0) := by
  refine loop_count l _ h (fun k hk c => ?_) fun c => ?_
  · have h0 : (0 : Int) ≤ (k : Int) := by omega
    have h1 : (k : Int) < (l.length : Int) := by omega
    simp only [ite_if]; simp only [lt_d, len_d, cond_dec, h0, h1, if_true, rd_at l k hk, impl_IsStatement_is, bind_some']; simp only [cond_if]
    split <;> rfl
  · simp only [lt_d, len_d, cond_dec]; rw [if_neg (by omega)]

end D
end Go.Sh
set_option linter.unusedVariables false
set_option linter.unusedSimpArgs false
set_option synthInstance.maxSize 100000
set_option maxHeartbeats 1000000
namespace Go.Sh
open Go Data
theorem fitsN {α : Type} {xs ys : List α} {b : Nat} (h : xs.length + ys.length ≤ 100000000) (hb : b ≤ 1000000) : N.fits xs ys b := by
  unfold N.fits
  exact Nat.le_trans (Nat.mul_le_mul h hb) (by decide)

namespace D
end D
end Go.Sh
set_option linter.unusedVariables false
set_option linter.unusedSimpArgs false
set_option synthInstance.maxSize 100000
set_option maxHeartbeats 1000000
namespace Go.Sh
open Go Data
namespace D
theorem cut_take {α : Type} (l : List α) (k : Nat) : N.cut l 0 (k : Int) = l.take k := by simp [N.cut]

end D
end Go.Sh
set_option linter.unusedVariables false
set_option linter.unusedSimpArgs false
set_option synthInstance.maxSize 100000
set_option maxHeartbeats 1000000
namespace Go.Sh
open Go Data
namespace D
end D
end Go.Sh
set_option linter.unusedVariables false
set_option linter.unusedSimpArgs false
set_option synthInstance.maxSize 100000
set_option maxHeartbeats 1000000
namespace Go.Sh
open Go Data
namespace D
end D
end Go.Sh
set_option linter.unusedVariables false
set_option linter.unusedSimpArgs false
set_option synthInstance.maxSize 100000
set_option maxHeartbeats 1000000
namespace Go.Sh
open Go Data
namespace D
end D
end Go.Sh
set_option linter.unusedVariables false
set_option linter.unusedSimpArgs false
set_option synthInstance.maxSize 100000
set_option maxHeartbeats 1000000
namespace Go.Sh
open Go Data
namespace D
end D
end Go.Sh
set_option linter.unusedVariables false
set_option linter.unusedSimpArgs false
set_option synthInstance.maxSize 100000
set_option maxHeartbeats 1000000
namespace Go.Sh
open Go Data
namespace D
end D
end Go.Sh
set_option linter.unusedVariables false
set_option linter.unusedSimpArgs false
set_option synthInstance.maxSize 100000
set_option maxHeartbeats 1000000
namespace Go.Sh
open Go Data
namespace D
end D
end Go.Sh
set_option linter.unusedVariables false
set_option linter.unusedSimpArgs false
set_option synthInstance.maxSize 100000
set_option maxHeartbeats 1000000
namespace Go.Sh
open Go Data
/-! ## What is drawn: it comes back, and keeps its bounds -/
def Gets {α : Type} (P : α → Prop) (r : Option α) : Prop := ∃ x, r = some x ∧ P x

section
variable {α β S R : Type} {P : α → Prop} {Q : R → Prop}
theorem Gets.pure {x : R} (h : Q x) : Gets Q (some x) := ⟨x, rfl, h⟩

theorem Gets.bind {x : Option α} {f : α → Option R} (h : Gets P x) (hf : ∀ a, P a → Gets Q (f a)) : Gets Q (N.bind x f) := by
  obtain ⟨a, rfl, ha⟩ := h; exact hf a ha

theorem Gets.cond {b : Bool} {x y : Option R} (h1 : b = true → Gets Q x) (h2 : b = false → Gets Q y) : Gets Q (N.cond b x y) := by
  unfold N.cond; cases b
  · exact h2 rfl
  · exact h1 rfl

theorem Gets.ite {c : Prop} [Decidable c] {x y : Option R} (hc : c) (h : Gets Q x) : Gets Q (N.ite c x y) := by rw [nite_pos hc]; exact h

theorem Gets.nite {c : Prop} [Decidable c] {x y : Option R} (hc : ¬ c) (h : Gets Q y) : Gets Q (N.ite c x y) := by rw [nite_neg hc]; exact h

theorem Gets.loop {step : S → Option (S ⊕ R)} (I : S → Prop) (m : S → Nat)
    (hs : ∀ s, I s → Gets (fun r => match r with | .inl s' => I s' ∧ m s' < m s | .inr r => Q r) (step s)) (s : S) (h : I s) : Gets Q (loopF step s) := by
  generalize hn : m s = n
  induction n using Nat.strongRecOn generalizing s with
  | ind n ih =>
    obtain ⟨r, e, hr⟩ := hs s h
    cases r with
    | inl s' => rw [loopF_inl e]; exact ih (m s') (by rw [← hn]; exact hr.2) s' hr.1 rfl
    | inr r => exact ⟨r, loopF_inr e, hr⟩

end
theorem and_255 (a : Int) : 0 ≤ N.and .i64 a 255 ∧ N.and .i64 a 255 ≤ 255 := by
  have h : (BitVec.ofInt 64 a &&& BitVec.ofInt 64 255).toNat ≤ 255 := by
    rw [BitVec.toNat_and]; exact Nat.and_le_right
  have e : N.and .i64 a 255 = (((BitVec.ofInt 64 a &&& BitVec.ofInt 64 255).toNat : Nat) : Int) := by
    show IntKind.i64.wrap _ = _
    exact wrap_id (by show _ ≤ (((BitVec.ofInt 64 a &&& BitVec.ofInt 64 255).toNat : Nat) : Int); omega) (by show (((BitVec.ofInt 64 a &&& BitVec.ofInt 64 255).toNat : Nat) : Int) < _; omega)
  rw [e]; omega

def few {α : Type} [Data α] (n : Nat) (xs : List α) : Prop := xs.length ≤ n ∧ ∀ x ∈ xs, ok x

theorem few.ok {α : Type} [Data α] {n : Nat} {xs : List α} (h : few n xs) (hn : n ≤ 1048576) : ok xs := ⟨Nat.le_trans h.1 hn, h.2⟩

theorem few.app {α : Type} [Data α] {n m : Nat} {xs : List α} {x : α} (h : few n xs) (hx : Data.ok x) (hm : n + 1 ≤ m) : few m (N.app xs [x]) :=
  ⟨by have := h.1; simp [N.app]; omega, fun y hy => by
    rcases List.mem_append.1 hy with hy | hy
    · exact h.2 y hy
    · simp at hy; subst hy; exact hx⟩

theorem few.set {α : Type} [Data α] {n : Nat} {xs : List α} {x : α} {i : Int} (h : few n xs) (hx : Data.ok x) : few n (N.set xs i x) :=
  ⟨by have := h.1; simp [N.set]; omega, fun y hy => by
    rcases List.mem_or_eq_of_mem_set hy with hy | hy
    · exact h.2 y hy
    · subst hy; exact hx⟩

theorem few.rd {α : Type} [Data α] {n : Nat} {xs : List α} {i : Int} {d : α} (h : few n xs) (hd : Data.ok d) : Data.ok (N.rd xs i d) := by
  unfold N.rd
  rw [List.getD_eq_getElem?_getD]
  cases e : xs[i.toNat]? with
  | none => exact hd
  | some x => exact h.2 x (List.mem_of_getElem? e)

namespace D
/-! ## The source of bytes -/
def curOk (c : l1Cur) : Prop := 0 ≤ c.2.1 ∧ c.2.1 ≤ (c.1.length : Int) ∧ c.1.length ≤ 1048576

theorem spec_l1New_is {x : List Int} (h : x.length ≤ 1048576) : Gets curOk (spec_l1New x) := by
  refine Gets.loop (I := fun s => 0 ≤ s.2) (m := fun s => x.length - s.2.toNat) (fun s hs => ?_) _ (by show (0 : Int) ≤ 0; omega)
  obtain ⟨a, i⟩ := s
  simp only at hs
  refine Gets.cond (fun h1 => Gets.cond (fun h2 => Gets.ite hs (Gets.ite ?_ (Gets.pure ?_))) fun _ => Gets.pure ⟨by simp only; omega, by simp only; omega, h⟩) fun _ => Gets.pure ⟨by simp only; omega, by simp only; omega, h⟩
  · simpa [N.lt] using h1
  · simp only [lt_d, len_d, decide_eq_true_eq] at h1
    have e : N.add .i64 i 1 = i + 1 := add_id (by omega) (by omega)
    simp only [e]; omega

theorem spec_l1Byte_is {c : l1Cur} (h : curOk c) : Gets (fun r => (0 ≤ r.1 ∧ r.1 ≤ 255) ∧ curOk r.2) (spec_l1Byte c) := by
  obtain ⟨xs, i, s⟩ := c
  obtain ⟨h1, h2, h3⟩ := h
  simp only at h1 h2 h3
  refine Gets.cond (fun h4 => Gets.ite h1 (Gets.ite ?_ (Gets.pure ⟨and_255 _, ?_⟩))) fun _ => Gets.pure ⟨and_255 _, h1, h2, h3⟩
  · simpa [N.lt] using h4
  · simp only [lt_d, len_d, decide_eq_true_eq] at h4
    have e : N.add .i64 i 1 = i + 1 := add_id (by omega) (by omega)
    refine ⟨?_, ?_, h3⟩ <;> simp only [e] <;> omega

theorem spec_l1Below_is {c : l1Cur} (h : curOk c) {n : Int} (h0 : 0 < n) : Gets (fun r => (0 ≤ r.1 ∧ r.1 < n) ∧ curOk r.2) (spec_l1Below c n) := by
  refine Gets.cond (fun h1 => ?_) fun _ => Gets.cond (fun _ => ?_) fun _ => ?_
  · simp only [le_d, decide_eq_true_eq] at h1; omega
  · refine Gets.bind (spec_l1Byte_is h) fun r ⟨h1, h2⟩ => Gets.nite (by omega) (Gets.pure ⟨?_, h2⟩)
    simp only [rem_pos h1.1]; exact ⟨Int.emod_nonneg _ (by omega), Int.emod_lt_of_pos _ h0⟩
  · refine Gets.bind (spec_l1Byte_is h) fun r ⟨h1, h2⟩ => Gets.bind (spec_l1Byte_is h2) fun r3 ⟨h3, h4⟩ => Gets.bind (spec_l1Byte_is h4) fun r4 ⟨h5, h6⟩ => Gets.nite (by omega) (Gets.pure ⟨?_, h6⟩)
    have e1 : N.mul .i64 r.1 65536 = r.1 * 65536 := mul_id (by omega) (by omega)
    have e2 : N.mul .i64 r3.1 256 = r3.1 * 256 := mul_id (by omega) (by omega)
    have e3 : N.add .i64 (r.1 * 65536) (r3.1 * 256) = r.1 * 65536 + r3.1 * 256 := add_id (by omega) (by omega)
    have e4 : N.add .i64 (r.1 * 65536 + r3.1 * 256) r4.1 = r.1 * 65536 + r3.1 * 256 + r4.1 := add_id (by omega) (by omega)
    simp only [e1, e2, e3, e4]
    rw [rem_pos (by omega)]
    exact ⟨Int.emod_nonneg _ (by omega), Int.emod_lt_of_pos _ h0⟩

theorem spec_l1Int_is {c : l1Cur} (h : curOk c) {l : List Int} (hl : 0 < l.length) (hk : ∀ x ∈ l, ok x) : Gets (fun r => (ok r.1 ∧ r.1 ∈ l) ∧ curOk r.2) (spec_l1Int c l) := by
  refine Gets.bind (spec_l1Below_is h (n := N.len l) (by rw [len_d]; omega)) fun r ⟨⟨h1, h2⟩, h3⟩ => Gets.ite h1 (Gets.ite h2 (Gets.pure ⟨?_, h3⟩))
  rw [len_d] at h2
  have e : r.1 = ((r.1.toNat : Nat) : Int) := by omega
  have hm : N.rd l r.1 0 ∈ l := by rw [e, rd_at l r.1.toNat (by omega)]; exact List.getElem_mem _
  exact ⟨hk _ hm, hm⟩

end D
end Go.Sh
set_option linter.unusedVariables false
set_option linter.unusedSimpArgs false
set_option synthInstance.maxSize 100000
set_option maxHeartbeats 2000000
namespace Go.Sh
open Go Data
namespace D
end D
end Go.Sh
set_option linter.unusedVariables false
set_option linter.unusedSimpArgs false
set_option synthInstance.maxSize 100000
set_option maxHeartbeats 2000000
namespace Go.Sh
open Go Data
namespace D
end D
end Go.Sh
set_option linter.unusedVariables false
set_option linter.unusedSimpArgs false
set_option synthInstance.maxSize 100000
set_option maxHeartbeats 4000000
namespace Go.Sh
open Go Data
namespace D
end D
end Go.Sh
set_option linter.unusedVariables false
set_option linter.unusedSimpArgs false
set_option synthInstance.maxSize 100000
set_option maxHeartbeats 4000000
namespace Go.Sh
open Go Data
namespace D
end D
end Go.Sh
set_option linter.unusedVariables false
set_option linter.unusedSimpArgs false
set_option synthInstance.maxSize 100000
set_option maxHeartbeats 4000000
namespace Go.Sh
open Go Data
namespace D
end D
end Go.Sh
set_option linter.unusedVariables false
set_option linter.unusedSimpArgs false
set_option synthInstance.maxSize 100000
set_option maxHeartbeats 4000000
namespace Go.Sh
open Go Data
namespace D
end D
end Go.Sh
set_option linter.unusedVariables false
set_option linter.unusedSimpArgs false
set_option synthInstance.maxSize 100000
set_option maxHeartbeats 4000000
namespace Go.Sh
open Go Data
namespace D
end D
end Go.Sh
set_option linter.unusedVariables false
set_option linter.unusedSimpArgs false
set_option synthInstance.maxSize 100000
set_option maxHeartbeats 4000000
namespace Go.Sh
open Go Data
namespace D
end D
end Go.Sh
set_option linter.unusedVariables false
set_option linter.unusedSimpArgs false
set_option synthInstance.maxSize 100000
set_option maxHeartbeats 4000000
namespace Go.Sh
open Go Data
end Go.Sh
set_option linter.unusedVariables false
set_option linter.unusedSimpArgs false
set_option synthInstance.maxSize 100000
set_option maxHeartbeats 4000000
namespace Go.Sh
open Go Data
namespace D
end D
end Go.Sh
set_option linter.unusedVariables false
set_option linter.unusedSimpArgs false
set_option synthInstance.maxSize 100000
set_option maxHeartbeats 4000000
namespace Go.Sh
open Go Data
namespace D
end D
end Go.Sh
set_option linter.unusedVariables false
set_option linter.unusedSimpArgs false
set_option synthInstance.maxSize 100000
set_option maxHeartbeats 4000000
namespace Go.Sh
open Go Data
namespace D
end D
end Go.Sh
set_option linter.unusedVariables false
set_option linter.unusedSimpArgs false
set_option synthInstance.maxSize 100000
set_option maxHeartbeats 4000000
namespace Go.Sh
open Go Data
namespace D
end D
end Go.Sh
set_option linter.unusedVariables false
set_option linter.unusedSimpArgs false
set_option synthInstance.maxSize 100000
set_option maxHeartbeats 4000000
namespace Go.Sh
open Go Data
namespace D
end D
end Go.Sh
set_option linter.unusedVariables false
set_option linter.unusedSimpArgs false
set_option synthInstance.maxSize 100000
set_option maxHeartbeats 4000000
namespace Go.Sh
open Go Data
namespace D
end D
end Go.Sh
set_option linter.unusedVariables false
set_option linter.unusedSimpArgs false
set_option synthInstance.maxSize 100000
set_option maxHeartbeats 4000000
namespace Go.Sh
open Go Data
namespace D
end D
end Go.Sh
set_option linter.unusedVariables false
set_option linter.unusedSimpArgs false
set_option synthInstance.maxSize 100000
set_option maxHeartbeats 4000000
namespace Go.Sh
open Go Data
namespace D
end D
end Go.Sh
set_option linter.unusedVariables false
set_option linter.unusedSimpArgs false
set_option synthInstance.maxSize 100000
set_option maxHeartbeats 4000000
namespace Go.Sh
open Go Data
namespace D
end D
end Go.Sh
set_option linter.unusedVariables false
set_option linter.unusedSimpArgs false
set_option synthInstance.maxSize 100000
set_option maxHeartbeats 4000000
namespace Go.Sh
open Go Data
namespace D
end D
end Go.Sh
set_option linter.unusedVariables false
set_option linter.unusedSimpArgs false
set_option synthInstance.maxSize 100000
set_option maxHeartbeats 4000000
namespace Go.Sh
open Go Data
namespace D
end D
end Go.Sh
set_option linter.unusedVariables false
set_option linter.unusedSimpArgs false
set_option synthInstance.maxSize 100000
set_option maxHeartbeats 4000000
namespace Go.Sh
open Go Data
namespace D
end D
end Go.Sh
set_option linter.unusedVariables false
set_option linter.unusedSimpArgs false
set_option synthInstance.maxSize 100000
set_option maxHeartbeats 4000000
namespace Go.Sh
open Go Data
namespace D
end D
end Go.Sh
set_option linter.unusedVariables false
set_option linter.unusedSimpArgs false
set_option synthInstance.maxSize 100000
set_option maxHeartbeats 4000000
namespace Go.Sh
open Go Data
namespace D
end D
end Go.Sh
set_option linter.unusedVariables false
set_option linter.unusedSimpArgs false
set_option synthInstance.maxSize 100000
set_option maxHeartbeats 4000000
namespace Go.Sh
open Go Data
namespace D
end D
end Go.Sh
set_option linter.unusedVariables false
set_option linter.unusedSimpArgs false
set_option synthInstance.maxSize 100000
set_option maxHeartbeats 4000000
namespace Go.Sh
open Go Data
namespace D
end D
end Go.Sh
set_option linter.unusedVariables false
set_option linter.unusedSimpArgs false
set_option synthInstance.maxSize 100000
set_option maxHeartbeats 4000000
namespace Go.Sh
open Go Data
namespace D
/-! ## One number, often -/
theorem u64_id {n : Int} (h0 : 0 ≤ n) (h1 : n < 18446744073709551616) : IntKind.u64.wrap n = n := by
  have e1 : ((2 : Int) ^ IntKind.u64.bits) = 18446744073709551616 := by decide
  have e3 : IntKind.u64.signed = false := rfl
  unfold IntKind.wrap
  rw [e1, e3]
  simp only [Bool.false_and, Bool.false_eq_true, if_false]
  omega

theorem u64_mul {a b : Int} (h0 : 0 ≤ a * b) (h1 : a * b < 18446744073709551616) : N.mul .u64 a b = a * b := u64_id h0 h1

theorem u64_add {a b : Int} (h0 : 0 ≤ a + b) (h1 : a + b < 18446744073709551616) : N.add .u64 a b = a + b := u64_id h0 h1

theorem u64_shr {a : Int} (h0 : 0 ≤ a) (h1 : a < 4294967296) : N.shr .u64 a 32 = 0 := by
  have e : ((2 : Int) ^ (Nat.min (32 : Int).toNat IntKind.u64.bits)) = 4294967296 := by decide
  unfold N.shr
  rw [e, Int.fdiv_eq_ediv_of_nonneg _ (by omega)]
  omega

theorem u64_low {a : Int} (h0 : 0 ≤ a) (h1 : a < 4294967296) : N.and .u64 a 4294967295 = a := by
  obtain ⟨m, rfl⟩ : ∃ m : Nat, a = (m : Int) := ⟨a.toNat, by omega⟩
  have e : (BitVec.ofInt IntKind.u64.bits (m : Int) &&& BitVec.ofInt IntKind.u64.bits 4294967295).toNat = m := by
    show (BitVec.ofInt 64 (m : Int) &&& BitVec.ofInt 64 4294967295).toNat = m
    rw [BitVec.toNat_and, show (BitVec.ofInt 64 4294967295).toNat = 2 ^ 32 - 1 by decide, BitVec.toNat_ofInt, Nat.and_two_pow_sub_one_eq_mod]
    omega
  unfold N.and
  rw [e]
  exact u64_id (by omega) (by omega)

theorem bits_Mul_one {n : Int} (h0 : 0 ≤ n) (h1 : n < 4294967296) : bits_Mul 1 n = some (0, n) := by
  unfold bits_Mul bits_Mul64
  rw [bind_some']
  have a1 : N.shr .u64 1 32 = 0 := u64_shr (by omega) (by omega)
  have a2 : N.shr .u64 n 32 = 0 := u64_shr h0 h1
  have a3 : N.and .u64 1 4294967295 = 1 := u64_low (by omega) (by omega)
  have a4 : N.and .u64 n 4294967295 = n := u64_low h0 h1
  have a5 : N.mul .u64 1 n = n := by rw [u64_mul (by omega) (by omega), Int.one_mul]
  have a6 : ∀ b, N.mul .u64 0 b = 0 := fun b => by rw [u64_mul (by omega) (by omega), Int.zero_mul]
  have a7 : N.mul .u64 1 0 = 0 := by rw [u64_mul (by omega) (by omega), Int.mul_zero]
  have a8 : N.add .u64 0 0 = 0 := u64_add (by omega) (by omega)
  have a9 : N.shr .u64 0 32 = 0 := u64_shr (by omega) (by omega)
  have a10 : N.and .u64 0 4294967295 = 0 := u64_low (by omega) (by omega)
  simp only [a1, a2, a3, a4, a5, a6, a7, a8, a9, a10]

theorem slices_Repeat_is {n : Nat} (h : n ≤ 1048576) : slices_Repeat_int [-1] (n : Int) = some (List.replicate n (-1)) := by
  have hn0 : ¬ (n : Int) < 0 := by omega
  have c1 : N.conv .u64 (N.len ([-1] : List Int)) = 1 := u64_id (n := N.len ([-1] : List Int)) (by rw [len_d]; simp) (by rw [len_d]; simp)
  have c2 : N.conv .u64 (n : Int) = (n : Int) := u64_id (by omega) (by omega)
  have c3 : N.conv .i64 (n : Int) = (n : Int) := wrap_id (by omega) (by omega)
  have hroom : N.room (n : Int) 8 := by unfold N.room; omega
  unfold slices_Repeat_int
  rw [c1, c2, bits_Mul_one (by omega) (by omega), bind_some', lt_d, decide_eq_false hn0, cond_false]
  simp only [gt_d, c3]
  rw [decide_eq_false (by omega), cond_false, decide_eq_false (by omega), cond_false, nite_pos (by omega), nite_pos hroom]
  have hrep : N.rep (n : Int) (0 : Int) = List.replicate n 0 := by unfold N.rep; rw [Int.toNat_natCast]
  have hlr : N.len (List.replicate n (0 : Int)) = (n : Int) := by rw [len_d, List.length_replicate]
  rw [hrep, hlr]
  have key : Gets (fun r => r = List.replicate n (-1)) (loopF (fun (s1 : Int × List Int) =>
      N.cond (N.lt s1.1 (N.len s1.2)) (N.ite (0 ≤ s1.1) (N.ite (s1.1 ≤ N.len s1.2) (N.ite (N.len s1.2 ≤ N.len s1.2) (N.ite (0 ≤ s1.1) (N.ite (s1.1 ≤ N.len s1.2)
        (some (Sum.inl (β := List Int) (N.add .i64 s1.1 (N.min (N.diff (N.len s1.2) s1.1) (N.len (N.cut s1.2 0 s1.1))), N.cpy s1.2 s1.1 (N.diff (N.len s1.2) s1.1) (N.cut s1.2 0 s1.1)))) none) none) none) none) none) (some (.inr s1.2)))
      (N.min (n : Int) (N.len ([-1] : List Int)), N.cpy (List.replicate n 0) 0 (n : Int) [-1])) := by
    refine Gets.loop (I := fun s : Int × List Int => ∃ k : Nat, s.1 = (k : Int) ∧ k ≤ n ∧ (n = 0 ∨ 0 < k) ∧ s.2.length = n ∧ s.2.take k = List.replicate k (-1)) (m := fun s => n - s.1.toNat) (fun s hs => ?_) _ ?_
    · obtain ⟨k, e1, hk, hk0, hl, ht⟩ := hs
      obtain ⟨s1, ys⟩ := s
      simp only at e1 hl ht
      subst e1
      refine Gets.cond (fun hlt => ?_) fun hlt => Gets.pure ?_
      · simp only [lt_d, len_d, decide_eq_true_eq] at hlt
        have hkn : k < n := by omega
        have hcut : N.cut ys 0 (k : Int) = List.replicate k (-1) := by rw [cut_take, ht]
        have hd : N.diff (N.len ys) (k : Int) = ((n - k : Nat) : Int) := by unfold N.diff; rw [len_d]; omega
        refine Gets.ite (by simp only; omega) (Gets.ite (by simp only [len_d]; omega) (Gets.ite (Int.le_refl _) (Gets.ite (by simp only; omega) (Gets.ite (by simp only [len_d]; omega) (Gets.pure ?_)))))
        simp only [hcut, hd]
        have hmin : N.min ((n - k : Nat) : Int) (N.len (List.replicate k (-1 : Int))) = ((min (n - k) k : Nat) : Int) := by
          unfold N.min; rw [len_d, List.length_replicate]; split <;> omega
        rw [hmin, add_id (by omega) (by omega)]
        refine ⟨⟨k + min (n - k) k, by omega, by omega, by omega, ?_, ?_⟩, by omega⟩
        · unfold N.cpy
          simp only [Int.toNat_natCast, List.length_append, List.length_take, List.length_drop, List.length_replicate]
          omega
        · unfold N.cpy
          simp only [Int.toNat_natCast, List.length_take, List.length_replicate, List.take_replicate]
          rw [ht, ← List.append_assoc, List.replicate_append_replicate, List.take_append_of_le_length (by rw [List.length_replicate]; omega), List.take_replicate]
          congr 1
          omega
      · simp only [lt_d, len_d, decide_eq_false_iff_not] at hlt
        have : k = n := by omega
        subst this
        rw [← ht, ← hl, List.take_length]
    · have hm : N.min (n : Int) (N.len ([-1] : List Int)) = ((min n 1 : Nat) : Int) := by
        unfold N.min; rw [len_d]; simp only [List.length_cons, List.length_nil]; split <;> omega
      refine ⟨min n 1, hm, by omega, by omega, ?_, ?_⟩
      · unfold N.cpy
        simp only [Int.toNat_zero, List.take_zero, List.nil_append, Int.toNat_natCast, List.length_append, List.length_take, List.length_drop, List.length_replicate, List.length_cons, List.length_nil]
        omega
      · cases n with
        | zero => rfl
        | succ n =>
          unfold N.cpy
          simp only [Int.toNat_zero, List.take_zero, List.nil_append, Int.toNat_natCast]
          rw [show min (n + 1) 1 = 1 by omega]
          simp
  obtain ⟨r, e, rfl⟩ := key
  exact e

/-! ## Who saw it first -/
def fsStep (keys : List Int) (digest : Int) (out : List Int) (s : Statement) : List Int :=
  if isStatementP keys s = true ∧ s.2.1 = digest ∧ (N.rd out s.1 0 < 0 ∨ s.2.2.1 < N.rd out s.1 0) then N.set out s.1 s.2.2.1 else out

def firstP (keys : List Int) (l : List Statement) (digest : Int) : List Int := l.foldl (fsStep keys digest) (List.replicate keys.length (-1))

theorem fs_len (keys : List Int) (d : Int) : ∀ (l : List Statement) (out : List Int), (l.foldl (fsStep keys d) out).length = out.length := by
  intro l
  induction l with
  | nil => intro out; rfl
  | cons s l ih =>
    intro out
    rw [List.foldl_cons, ih]
    unfold fsStep
    split
    · simp [N.set]
    · rfl

theorem first_len (keys : List Int) (l : List Statement) (d : Int) : (firstP keys l d).length = keys.length := by
  unfold firstP; rw [fs_len, List.length_replicate]

theorem stmt_in {keys : List Int} {s : Statement} (h : isStatementP keys s = true) : 0 ≤ s.1 ∧ s.1 < (keys.length : Int) := by
  unfold isStatementP at h
  simp only [Bool.and_eq_true, decide_eq_true_eq] at h
  exact h.1.1.1.2

theorem fs_next (keys : List Int) (d : Int) (l : List Statement) (k : Nat) (hk : k < l.length) (out : List Int) : (l.take (k + 1)).foldl (fsStep keys d) out = fsStep keys d ((l.take k).foldl (fsStep keys d) out) l[k] := by
  rw [List.take_succ_eq_append_getElem hk, List.foldl_append]; rfl

theorem impl_FirstSeen_is {keys : List Int} {l : List Statement} (hk : keys.length ≤ 1048576) (hl : l.length ≤ 1048576) (d : Int) : impl_FirstSeen keys l d = some (firstP keys l d) := by
  unfold impl_FirstSeen
  rw [show N.len keys = (keys.length : Int) from len_d keys, slices_Repeat_is hk, bind_some']
  refine loop_upto (r := firstP keys l d) l.length (fun k (a : List Int) => ((k : Int), a)) (fun k => (l.take k).foldl (fsStep keys d) (List.replicate keys.length (-1))) (fun k hk' => ?_) ?_
  · have h0 : (0 : Int) ≤ (k : Int) := by omega
    have h1 : (k : Int) < (l.length : Int) := by omega
    have hfl : ((l.take k).foldl (fsStep keys d) (List.replicate keys.length (-1))).length = keys.length := by rw [fs_len, List.length_replicate]
    rw [fs_next keys d l k hk']
    generalize (l.take k).foldl (fsStep keys d) (List.replicate keys.length (-1)) = out at hfl ⊢
    simp only [lt_d, len_d, nite_pos h0, nite_pos h1, rd_at l k hk', impl_IsStatement_is, bind_some', next_id hk' (by omega), eq_d]
    rw [decide_eq_true h1, cond_true]
    unfold fsStep
    cases hst : isStatementP keys l[k] with
    | false =>
      rw [if_neg (fun h => by simp at h)]
      by_cases hd : (l[k]).2.1 = d
      · simp only [hd, decide_true, cond_true, cond_false]
      · simp only [hd, decide_false, cond_false]
    | true =>
      obtain ⟨i0, i1⟩ := stmt_in hst
      rw [← hfl] at i1
      simp only [nite_pos i0, nite_pos i1, cond_true, true_and]
      by_cases hd : (l[k]).2.1 = d
      · by_cases ho : N.rd out (l[k]).1 0 < 0
        · simp only [hd, ho, true_and, true_or, if_true, decide_true, cond_true]
        · by_cases ho2 : (l[k]).2.2.1 < N.rd out (l[k]).1 0
          · simp only [hd, ho, ho2, true_and, or_true, if_true, decide_false, decide_true, cond_false, cond_true]
          · simp only [hd, ho, ho2, true_and, or_self, if_false, decide_false, decide_true, cond_false, cond_true]
      · simp only [hd, false_and, if_false, decide_false, cond_false]
  · simp only [lt_d, len_d]
    rw [decide_eq_false (Int.lt_irrefl _), cond_false, List.take_length]
    rfl

end D
end Go.Sh
set_option linter.unusedVariables false
set_option linter.unusedSimpArgs false
set_option synthInstance.maxSize 100000
set_option maxHeartbeats 4000000
namespace Go.Sh
open Go Data
namespace D
end D
end Go.Sh
set_option linter.unusedVariables false
set_option linter.unusedSimpArgs false
set_option maxRecDepth 100000
set_option maxHeartbeats 4000000
namespace Go.Sh
open Go Data
namespace D
end D
end Go.Sh
set_option linter.unusedVariables false
set_option linter.unusedSimpArgs false
set_option synthInstance.maxSize 100000
set_option maxHeartbeats 4000000
namespace Go.Sh
open Go Data
theorem Gets.both {α : Type} {P Q : α → Prop} {x : Option α} (h1 : Gets P x) (h2 : Gets Q x) : Gets (fun a => P a ∧ Q a) x := by
  obtain ⟨a, rfl, h⟩ := h1
  obtain ⟨b, e, h'⟩ := h2
  simp only [Option.some.injEq] at e
  subst e
  exact ⟨_, rfl, h, h'⟩

namespace D
end D
end Go.Sh
set_option linter.unusedVariables false
set_option linter.unusedSimpArgs false
set_option synthInstance.maxSize 100000
set_option maxHeartbeats 4000000
namespace Go.Sh
open Go Data
namespace D
end D
end Go.Sh
set_option linter.unusedVariables false
set_option linter.unusedSimpArgs false
namespace Go.Sh.D
open Go
/-! ## A comparison and the order that it tells; sorting by blocks and by merging in place -/
theorem loop_meas {S R : Type} {step : S → Option (S ⊕ R)} (I : S → Prop) (μ : S → Nat) (Post : R → Prop)
    (h : ∀ s, I s → (∃ s', step s = some (.inl s') ∧ I s' ∧ μ s' < μ s) ∨ ∃ r, step s = some (.inr r) ∧ Post r) : ∀ s, I s → ∃ r, loopF step s = some r ∧ Post r := by
  have key : ∀ (n : Nat) s, I s → μ s < n → ∃ r, loopF step s = some r ∧ Post r := by
    intro n
    induction n with
    | zero => intro s _ h; omega
    | succ n ih =>
      intro s hs hn
      rcases h s hs with ⟨s', e, hi, hm⟩ | ⟨r, e, hr⟩
      · rw [loopF_inl e]; exact ih s' hi (by omega)
      · exact ⟨r, loopF_inr e, hr⟩
  intro s hs
  exact key _ s hs (Nat.lt_succ_self _)

structure Ordr (le lt : Int → Int → Bool) : Prop where
  total : ∀ a b, (le a b || le b a) = true
  trans : ∀ a b c, le a b = true → le b c = true → le a c = true
  anti : ∀ a b, le a b = true → le b a = true → a = b
  agree : ∀ a b, le a b = true → lt b a = false

/-- x stands before y: the comparison tells their order -/
def Qp (le lt : Int → Int → Bool) (x y : Int) : Prop := le x y = true ∨ lt y x = true

theorem Ordr.rep {le lt : Int → Int → Bool} {P U U' S : List Int} (hq : (P ++ U ++ S).Pairwise (Qp le lt)) (hp : U'.Perm U) (hs : U'.Pairwise fun a b => le a b = true) : (P ++ U' ++ S).Pairwise (Qp le lt) := by
  simp only [List.pairwise_append, List.mem_append] at hq ⊢
  obtain ⟨⟨h1, h2, h3⟩, h4, h5⟩ := hq
  exact ⟨⟨h1, hs.imp fun h => .inl h, fun a ha b hb => h3 a ha b (hp.mem_iff.1 hb)⟩, h4, fun a ha b hb => h5 a (ha.imp id hp.mem_iff.1) b hb⟩

end Go.Sh.D
set_option linter.unusedVariables false
set_option linter.unusedSimpArgs false
namespace Go.Sh.D
open Go
end Go.Sh.D
set_option linter.unusedVariables false
set_option linter.unusedSimpArgs false
namespace Go.Sh.D
open Go
end Go.Sh.D
set_option linter.unusedVariables false
set_option linter.unusedSimpArgs false
namespace Go.Sh.D
open Go
end Go.Sh.D
set_option linter.unusedVariables false
set_option linter.unusedSimpArgs false
namespace Go.Sh.D
open Go
end Go.Sh.D
set_option linter.unusedVariables false
set_option linter.unusedSimpArgs false
namespace Go.Sh.D
open Go
end Go.Sh.D
set_option linter.unusedVariables false
set_option linter.unusedSimpArgs false
namespace Go.Sh.D
open Go
theorem lt_self (i : Int) : N.lt i i = false := by simp [N.lt]
theorem lt_tt {a b : Int} (h : a < b) : N.lt a b = true := by rw [lt_d]; exact decide_eq_true h
theorem lt_ff {a b : Int} (h : ¬ a < b) : N.lt a b = false := by rw [lt_d]; exact decide_eq_false h
theorem gt_ff {a b : Int} (h : ¬ b < a) : N.gt a b = false := by rw [gt_d]; exact decide_eq_false h
theorem not_d (b : Bool) : N.not b = !b := rfl

end Go.Sh.D
set_option linter.unusedVariables false
set_option linter.unusedSimpArgs false
namespace Go.Sh.D
open Go
theorem le_tt {a b : Int} (h : a ≤ b) : N.le a b = true := by rw [le_d]; exact decide_eq_true h
end Go.Sh.D
set_option linter.unusedVariables false
set_option linter.unusedSimpArgs false
namespace Go.Sh.D
open Go
end Go.Sh.D
set_option linter.unusedVariables false
set_option linter.unusedSimpArgs false
namespace Go.Sh.D
open Go Data
end Go.Sh.D
set_option linter.unusedVariables false
set_option linter.unusedSimpArgs false
namespace Go.Sh.D
open Go Data
end Go.Sh.D
set_option linter.unusedVariables false
set_option linter.unusedSimpArgs false
namespace Go.Sh.D
open Go Data
end Go.Sh.D
set_option linter.unusedVariables false
set_option linter.unusedSimpArgs false
namespace Go.Sh.D
open Go Data
end Go.Sh.D
set_option linter.unusedVariables false
set_option linter.unusedSimpArgs false
namespace Go.Sh.D
open Go Data
end Go.Sh.D
set_option linter.unusedVariables false
set_option linter.unusedSimpArgs false
namespace Go.Sh.D
open Go Data
end Go.Sh.D
set_option linter.unusedVariables false
set_option linter.unusedSimpArgs false
namespace Go.Sh.D
open Go Data
end Go.Sh.D
set_option linter.unusedVariables false
set_option linter.unusedSimpArgs false
namespace Go.Sh.D
open Go Data
end Go.Sh.D
set_option linter.unusedVariables false
set_option linter.unusedSimpArgs false
namespace Go.Sh.D
open Go Data
end Go.Sh.D
set_option linter.unusedVariables false
set_option linter.unusedSimpArgs false
namespace Go.Sh.D
open Go Data
/-! ## Proven by witnesses -/
theorem first_vals (keys : List Int) (d : Int) : ∀ (l : List Statement) (out : List Int), (∀ y ∈ out, y = -1 ∨ 0 ≤ y) → ∀ y ∈ l.foldl (fsStep keys d) out, y = -1 ∨ 0 ≤ y
  | [], out, h => h
  | s :: l, out, h => by
    rw [List.foldl_cons]
    refine first_vals keys d l _ fun y hy => ?_
    unfold fsStep at hy
    split at hy
    · rename_i hs
      rcases List.mem_or_eq_of_mem_set hy with hy | rfl
      · exact h y hy
      · right
        have := hs.1
        unfold isStatementP at this
        simp only [Bool.and_eq_true, decide_eq_true_eq] at this
        exact this.1.2.1
    · exact h y hy

theorem firstP_vals (keys : List Int) (l : List Statement) (d : Int) : ∀ y ∈ firstP keys l d, y = -1 ∨ 0 ≤ y :=
  first_vals keys d l _ fun y hy => .inl (List.eq_of_mem_replicate hy)

theorem impl_ProvenBy_is {keys : List Int} {l : List Statement} (hk : keys.length ≤ 1048576) (hl : l.length ≤ 1048576) (d k : Int) : impl_ProvenBy keys l d k = some (N.provenAt (firstP keys l d) k) := by
  unfold impl_ProvenBy
  rw [impl_FirstSeen_is hk hl, bind_some', nite_pos (by rw [len_d, first_len]; omega)]

theorem seen_asc (f : List Int) : (N.seen f).Pairwise fun a b => a ≤ b := by
  unfold N.seen
  have := List.pairwise_mergeSort (le := fun x y : Int => decide (x ≤ y)) (fun a b c h1 h2 => by simp only [decide_eq_true_eq] at *; omega) (fun a b => by simp only [Bool.or_eq_true, decide_eq_true_eq]; omega) (f.filter fun x => !decide (x = -1))
  exact this.imp fun h => of_decide_eq_true h
theorem seen_perm (f : List Int) : (N.seen f).Perm (f.filter fun x => !decide (x = -1)) := List.mergeSort_perm _ _
end Go.Sh.D
set_option linter.unusedVariables false
set_option linter.unusedSimpArgs false
namespace Go.Sh.D
open Go Data
/-! ## So many liars as were told -/
def drawnW : List Int := [0, 1, 2, 3, 4, -1, 9, 10, 99, 100, 9223372036854775807, -9223372036854775808]
def drawnT : List Int := [0, 1, 2, 3, 4, 5, 6, 7, 8, 9, 10, 11, 12, 13, 14, 15, 16, 17, 18, 19, 2000, 2001, -1]
def noZero (k : Int) : Bool := drawnW.all fun w => [0, 1, 2].all fun d => drawnT.all fun t => !decide (keyedP k [w, d, t] = 0)
theorem noZero_11 : noZero 11 = true := by decide +kernel
theorem noZero_12 : noZero 12 = true := by decide +kernel

theorem nz {k w d t : Int} (hk : k = 11 ∨ k = 12) (hw : w ∈ drawnW) (hd : d ∈ ([0, 1, 2] : List Int)) (ht : t ∈ drawnT) : keyedP k [w, d, t] ≠ 0 := by
  have h : noZero k = true := by
    rcases hk with rfl | rfl
    · exact noZero_11
    · exact noZero_12
  unfold noZero at h
  rw [List.all_eq_true] at h
  have h1 := h w hw
  rw [List.all_eq_true] at h1
  have h2 := h1 d hd
  rw [List.all_eq_true] at h2
  have h3 := h2 t ht
  simpa using h3

theorem in_T {n : Int} (h0 : 0 ≤ n) (h1 : n < 20) : n ∈ drawnT := by
  have : ∀ m : Nat, m < 20 → ((m : Int) ∈ drawnT) := by decide
  have := this n.toNat (by omega)
  rwa [Int.toNat_of_nonneg h0] at this
theorem in_W {n : Int} (h0 : 0 ≤ n) (h1 : n < 5) : n ∈ drawnW := by
  have : ∀ m : Nat, m < 5 → ((m : Int) ∈ drawnW) := by decide
  have := this n.toNat (by omega)
  rwa [Int.toNat_of_nonneg h0] at this
theorem in_3 {n : Int} (h0 : 0 ≤ n) (h1 : n < 3) : n ∈ ([0, 1, 2] : List Int) := by
  simp only [List.mem_cons, List.not_mem_nil, or_false]; omega

theorem spec_l26Keys_is {c : l1Cur} (h : curOk c) : Gets (fun r => (1 ≤ r.1.length ∧ r.1.length ≤ 5) ∧ curOk r.2) (spec_l26Keys c) := by
  refine Gets.bind (spec_l1Below_is h (n := 5) (by omega)) fun r ⟨h1, h2⟩ => ?_
  have e1 : N.add .i64 1 r.1 = 1 + r.1 := add_id (by omega) (by omega)
  refine Gets.loop (I := fun s => 0 ≤ s.2 ∧ (s.1.length : Int) + s.2 = 1 + r.1) (m := fun s => s.2.toNat) (fun s hs => ?_) _ ⟨by simp only [e1]; omega, by simp only [e1, List.length_nil]; omega⟩
  obtain ⟨xs, i⟩ := s
  obtain ⟨g1, g2⟩ := hs
  simp only at g1 g2
  refine Gets.cond (fun hc => ?_) fun hc => Gets.pure ⟨⟨?_, ?_⟩, h2⟩
  · simp only [gt_d, decide_eq_true_eq] at hc
    have e2 : N.sub .i64 i 1 = i - 1 := sub_id (by omega) (by omega)
    exact Gets.ite (fits8 (by simp; omega)) (Gets.pure ⟨⟨by simp only [e2]; omega, by simp only [e2, N.app, List.length_append, List.length_singleton]; omega⟩, by simp only [e2]; omega⟩)
  · simp only [gt_d, decide_eq_false_iff_not] at hc
    simp only; omega
  · simp only [gt_d, decide_eq_false_iff_not] at hc
    simp only; omega

theorem spec_l26Draw_is {c : l1Cur} (h : curOk c) {ks : List Int} (hk : 1 ≤ ks.length ∧ ks.length ≤ 5) : Gets (fun r => (r.1.1 ∈ drawnW ∧ r.1.2.1 ∈ ([0, 1, 2] : List Int) ∧ r.1.2.2.1 ∈ drawnT) ∧ curOk r.2) (spec_l26Draw c ks) := by
  refine Gets.bind (spec_l1Below_is h (by rw [len_d]; omega)) fun r1 ⟨h1, h2⟩ => Gets.ite h1.1 (Gets.ite h1.2 ?_)
  rw [len_d] at h1
  refine Gets.bind (spec_l1Below_is h2 (n := 3) (by omega)) fun r2 ⟨h3, h4⟩ => Gets.bind (spec_l1Below_is h4 (n := 20) (by omega)) fun r3 ⟨h5, h6⟩ => ?_
  rw [spec_SealStatement_is, bind_some']
  have w1 := in_W h1.1 (show r1.1 < 5 by omega)
  have d1 := in_3 h3.1 h3.2
  have t1 := in_T h5.1 h5.2
  refine Gets.bind (spec_l1Below_is h6 (n := 10) (by omega)) fun r5 ⟨h7, h8⟩ => Gets.cond (fun _ => ?_) fun _ => Gets.cond (fun _ => ?_) fun _ => Gets.cond (fun _ => Gets.pure ⟨⟨w1, d1, t1⟩, h8⟩) fun _ => Gets.pure ⟨⟨w1, d1, t1⟩, h8⟩
  · have hk : ∀ x ∈ ([0, 2000, 2001, (-1)] : List Int), ok x := fun x hx => by
      simp only [List.mem_cons, List.mem_nil_iff, or_false] at hx
      rcases hx with rfl | rfl | rfl | rfl <;> exact ⟨by decide, by decide⟩
    refine Gets.bind (spec_l1Int_is h8 (by simp) hk) fun r6 ⟨⟨_, h9⟩, h10⟩ => Gets.pure ⟨⟨w1, d1, ?_⟩, h10⟩
    simp only [List.mem_cons, List.mem_nil_iff, or_false] at h9
    simp only
    rcases h9 with h9 | h9 | h9 | h9 <;> rw [h9] <;> decide
  · have hk : ∀ x ∈ ([(-1), 0, 9, 10, 99, 100, 9223372036854775807, (-9223372036854775808)] : List Int), ok x := fun x hx => by
      simp only [List.mem_cons, List.mem_nil_iff, or_false] at hx
      rcases hx with rfl | rfl | rfl | rfl | rfl | rfl | rfl | rfl <;> exact ⟨by decide, by decide⟩
    refine Gets.bind (P := fun r : Int × l1Cur => r.1 ∈ drawnW ∧ curOk r.2) ?_ fun r7 ⟨h9, h10⟩ => Gets.pure ⟨⟨h9, d1, t1⟩, h10⟩
    unfold spec_l4Raw
    refine Gets.bind (spec_l1Int_is h8 (by simp) hk) fun r6 ⟨⟨_, h9⟩, h10⟩ => Gets.pure ⟨?_, h10⟩
    simp only [List.mem_cons, List.mem_nil_iff, or_false] at h9
    rcases h9 with h9 | h9 | h9 | h9 | h9 | h9 | h9 | h9 <;> rw [h9] <;> decide

theorem spec_DrawSealStatement_is {x : List Int} (h : x.length ≤ 1048576) : Gets (fun r => r.1 ∈ ([11, 12, 0, (-1)] : List Int) ∧ r.2.1 ∈ drawnW ∧ r.2.2.1 ∈ ([0, 1, 2] : List Int) ∧ r.2.2.2.1 ∈ drawnT) (spec_DrawSealStatement x) := by
  have hk : ∀ x ∈ ([11, 12, 0, (-1)] : List Int), ok x := fun x hx => by
    simp only [List.mem_cons, List.mem_nil_iff, or_false] at hx
    rcases hx with rfl | rfl | rfl | rfl <;> exact ⟨by decide, by decide⟩
  exact Gets.bind (spec_l1New_is h) fun r h1 => Gets.bind (spec_l26Keys_is h1) fun r2 ⟨h2, h3⟩ => Gets.bind (spec_l1Int_is h3 (by simp) hk) fun r3 ⟨⟨_, h4⟩, h5⟩ => Gets.bind (spec_l26Draw_is h5 h2) fun r4 ⟨h6, _⟩ => Gets.pure ⟨h4, h6⟩

theorem spec_DrawProvenBy_is {x : List Int} (h : x.length ≤ 1048576) : Gets (fun r => (1 ≤ r.1.length ∧ r.1.length ≤ 5) ∧ r.2.1.length ≤ 8) (spec_DrawProvenBy x) := by
  have hk : ∀ x ∈ ([0, 1, 2, 3, (-1), 9223372036854775807] : List Int), ok x := fun x hx => by
    simp only [List.mem_cons, List.mem_nil_iff, or_false] at hx
    rcases hx with rfl | rfl | rfl | rfl | rfl | rfl <;> exact ⟨by decide, by decide⟩
  refine Gets.bind (P := fun r => (1 ≤ r.1.length ∧ r.1.length ≤ 5) ∧ r.2.1.length ≤ 8) ?_ fun r hr => Gets.bind (spec_l1New_is h) fun r2 h2 => Gets.bind (spec_l1Int_is h2 (by simp) hk) fun r3 _ => Gets.pure hr
  refine Gets.bind (spec_l1New_is h) fun r1 h1 => Gets.bind (P := fun r => ((1 ≤ r.1.length ∧ r.1.length ≤ 5) ∧ r.2.1.length ≤ 8) ∧ curOk r.2.2) ?_ fun r2 ⟨h2, h3⟩ => Gets.bind (spec_l1Below_is h3 (n := 4) (by omega)) fun r3 _ => Gets.pure h2
  refine Gets.bind (spec_l26Keys_is h1) fun r2 ⟨h2, h3⟩ => Gets.bind (spec_l1Below_is h3 (n := 9) (by omega)) fun r3 ⟨h4, h5⟩ => ?_
  refine Gets.loop (I := fun s : List Statement × Int × (List Int × Int × Int) => 0 ≤ s.2.1 ∧ (s.1.length : Int) + s.2.1 ≤ 8 ∧ curOk s.2.2) (m := fun s => s.2.1.toNat) (fun s hs => ?_) _ ⟨h4.1, by simp; omega, h5⟩
  obtain ⟨xs, n, c⟩ := s
  obtain ⟨g1, g2, g3⟩ := hs
  simp only at g1 g2 g3
  refine Gets.cond (fun hc => ?_) fun hc => Gets.pure ⟨⟨h2, by simp only; omega⟩, g3⟩
  simp only [gt_d, decide_eq_true_eq] at hc
  have e2 : N.sub .i64 n 1 = n - 1 := sub_id (by omega) (by omega)
  exact Gets.bind (spec_l26Draw_is g3 h2) fun r4 ⟨_, g4⟩ => Gets.ite (fitsN (by simp; omega) (by omega)) (Gets.pure ⟨⟨by simp only [e2]; omega, by simp only [e2, N.app, List.length_append, List.length_singleton]; omega, g4⟩, by simp only [e2]; omega⟩)
end Go.Sh.D
set_option linter.unusedVariables false
set_option linter.unusedSimpArgs false
namespace Go.Sh.D
open Go Data
theorem keptN (f : List Int) (hv : ∀ y ∈ f, y = -1 ∨ 0 ≤ y) : (f.filter fun x => !decide (x = -1)) = f.filter fun x => decide (0 ≤ x) := by
  refine List.filter_congr fun x hx => ?_
  rcases hv x hx with h | h
  · rw [h]; rfl
  · rw [decide_eq_false (show ¬ x = -1 by omega), decide_eq_true h]; rfl

theorem seen_count (f : List Int) (hv : ∀ y ∈ f, y = -1 ∨ 0 ≤ y) : (N.seen f).length = f.countP fun x => decide (0 ≤ x) := by
  rw [(seen_perm f).length_eq, keptN f hv, List.countP_eq_length_filter]

theorem seen_nonneg (f : List Int) (hv : ∀ y ∈ f, y = -1 ∨ 0 ≤ y) : ∀ y ∈ N.seen f, 0 ≤ y := fun y hy => by
  have := (seen_perm f).mem_iff.1 hy
  rw [keptN f hv, List.mem_filter] at this
  simpa using this.2

theorem proven_ge (f : List Int) (hv : ∀ y ∈ f, y = -1 ∨ 0 ≤ y) (k : Int) : (0 ≤ N.provenAt f k) ↔ (0 ≤ k ∧ k < ((N.seen f).length : Int)) := by
  unfold N.provenAt
  by_cases h : 0 ≤ k ∧ k < ((N.seen f).length : Int)
  · rw [if_pos h]
    have hk : k.toNat < (N.seen f).length := by omega
    have : (N.seen f).getD k.toNat 0 = (N.seen f)[k.toNat] := by simp [hk]
    rw [this]
    exact ⟨fun _ => h, fun _ => seen_nonneg f hv _ (List.getElem_mem hk)⟩
  · rw [if_neg h]
    exact ⟨fun hh => by omega, fun hh => absurd hh h⟩

theorem proven_val (f : List Int) {k : Int} (h : 0 ≤ k ∧ k < ((N.seen f).length : Int)) : ∃ hk : k.toNat < (N.seen f).length, N.provenAt f k = (N.seen f)[k.toNat] := by
  have hk : k.toNat < (N.seen f).length := by omega
  refine ⟨hk, ?_⟩
  unfold N.provenAt
  rw [if_pos h]
  simp [hk]

/-- how many are less than the one at place k -/
theorem before_le (f : List Int) (hv : ∀ y ∈ f, y = -1 ∨ 0 ≤ y) {k : Int} (h : 0 ≤ k ∧ k < ((N.seen f).length : Int)) : (f.countP fun x => decide (0 ≤ x) && decide (x < N.provenAt f k)) ≤ k.toNat := by
  obtain ⟨hk, e⟩ := proven_val f h
  rw [e]
  have hs := seen_asc f
  have h1 : (f.countP fun x => decide (0 ≤ x) && decide (x < (N.seen f)[k.toNat])) = (N.seen f).countP fun x => decide (x < (N.seen f)[k.toNat]) := by
    rw [(seen_perm f).countP_eq, keptN f hv, List.countP_filter]
    congr 1
    funext x
    exact Bool.and_comm _ _
  rw [h1]
  generalize hS : N.seen f = S at *
  have h2 : S.countP (fun x => decide (x < S[k.toNat])) = (S.take k.toNat).countP (fun x => decide (x < S[k.toNat])) + (S.drop k.toNat).countP (fun x => decide (x < S[k.toNat])) := by
    rw [← List.countP_append, List.take_append_drop]
  rw [h2]
  have h3 : (S.drop k.toNat).countP (fun x => decide (x < S[k.toNat])) = 0 := by
    rw [List.countP_eq_zero]
    intro x hx
    obtain ⟨i, hi, rfl⟩ := List.getElem_of_mem hx
    have hi' : k.toNat + i < S.length := by simp at hi; omega
    rw [List.getElem_drop]
    by_cases h0 : i = 0
    · subst h0; simp
    · have := List.pairwise_iff_getElem.1 hs k.toNat (k.toNat + i) hk hi' (by omega)
      simp only [decide_eq_true_eq]
      omega
  have h4 : (S.take k.toNat).countP (fun x => decide (x < S[k.toNat])) ≤ k.toNat := Nat.le_trans List.countP_le_length (by simp; omega)
  omega

/-- at least k + 1 are at most the one at place k -/
theorem upto_ge (f : List Int) (hv : ∀ y ∈ f, y = -1 ∨ 0 ≤ y) {k : Int} (h : 0 ≤ k ∧ k < ((N.seen f).length : Int)) : k.toNat + 1 ≤ f.countP fun x => decide (0 ≤ x) && decide (x ≤ N.provenAt f k) := by
  obtain ⟨hk, e⟩ := proven_val f h
  rw [e]
  have hs := seen_asc f
  have h1 : (f.countP fun x => decide (0 ≤ x) && decide (x ≤ (N.seen f)[k.toNat])) = (N.seen f).countP fun x => decide (x ≤ (N.seen f)[k.toNat]) := by
    rw [(seen_perm f).countP_eq, keptN f hv, List.countP_filter]
    congr 1
    funext x
    exact Bool.and_comm _ _
  rw [h1]
  generalize hS : N.seen f = S at *
  have h2 : S.countP (fun x => decide (x ≤ S[k.toNat])) = (S.take (k.toNat + 1)).countP (fun x => decide (x ≤ S[k.toNat])) + (S.drop (k.toNat + 1)).countP (fun x => decide (x ≤ S[k.toNat])) := by
    rw [← List.countP_append, List.take_append_drop]
  have h3 : (S.take (k.toNat + 1)).countP (fun x => decide (x ≤ S[k.toNat])) = (S.take (k.toNat + 1)).length := by
    rw [List.countP_eq_length]
    intro x hx
    obtain ⟨i, hi, rfl⟩ := List.getElem_of_mem hx
    have hi' : i < k.toNat + 1 := by simp at hi; omega
    rw [List.getElem_take]
    simp only [decide_eq_true_eq]
    by_cases h0 : i = k.toNat
    · subst h0; exact Int.le_refl _
    · exact List.pairwise_iff_getElem.1 hs i k.toNat (by omega) hk (by omega)
  have h4 : (S.take (k.toNat + 1)).length = k.toNat + 1 := by simp; omega
  omega

theorem fs_drop (keys : List Int) (d : Int) (s : Statement) (hs : s.1 = 0) (L : List Int) : (fsStep keys d L s).drop 1 = L.drop 1 := by
  unfold fsStep
  split
  · unfold N.set
    rw [hs]
    cases L <;> rfl
  · rfl

theorem forged_tail (keys : List Int) (l : List Statement) (d : Int) (s : Statement) (hs : s.1 = 0) : (firstP keys (l ++ [s]) d).drop 1 = (firstP keys l d).drop 1 := by
  unfold firstP
  rw [List.foldl_append]
  exact fs_drop keys d s hs _

theorem last_check {x0 : List Int} (hx : x0.length ≤ 1048576) (keys : List Int) (l : List Statement) (hl : l.length ≤ 8) :
    (N.bind (spec_DrawSealStatement x0) fun r7 => N.bind (impl_SealStatement r7.1 r7.2) fun r8 => N.bind (impl_IsValidKey r7.1) fun r9 => N.cond (N.eqB (N.eq r8.2.2.2 0) (N.not r9)) (N.bind (impl_CountHonest keys l) fun r10 => some (N.le r10 (N.len l))) (some false)) = some true := by
  obtain ⟨⟨k, s⟩, e, h1, h2, h3, h4⟩ := spec_DrawSealStatement_is hx
  simp only at h1 h2 h3 h4
  rw [e, bind_some']
  simp only [impl_SealStatement_is, impl_IsValidKey_is, bind_some', impl_CountHonest_is (show l.length ≤ 4611686018427387904 by omega)]
  have hc := (countAt_le (p := fun _ s => isStatementP keys s) l 0).2
  have h5 : N.eqB (N.eq (sealP k s).2.2.2 0) (N.not (decide (validP k))) = true := by
    rw [eqB_d, eq_d]
    by_cases hv : validP k
    · have hk : k = 11 ∨ k = 12 := by
        unfold validP at hv
        simp only [List.mem_cons, List.not_mem_nil, or_false] at h1
        omega
      have := nz hk h2 h3 h4
      have hs : (sealP k s).2.2.2 = keyedP k [s.1, s.2.1, s.2.2.1] := by unfold sealP; rw [if_pos hv]
      rw [hs, decide_eq_false this, decide_eq_true hv]; rfl
    · have hs : (sealP k s).2.2.2 = 0 := by unfold sealP; rw [if_neg hv]
      rw [hs, decide_eq_false hv]; rfl
  rw [h5, cond_true, len_d, le_tt hc]

theorem honest_loop (keys : List Int) (l : List Statement) (hl : l.length ≤ 8) (hk : keys.length ≤ 5) (d k : Int) (hk1 : 1 ≤ k) (s : Statement) (hs : s.1 = 0) :
    loopF (fun (s2 : Int × Int) => N.cond (N.lt s2.2 (N.len (firstP keys l d))) ( N.ite (0 ≤ s2.2) ( N.ite (s2.2 < N.len (firstP keys l d)) ( N.cond (N.ge (N.rd (firstP keys l d) s2.2 0) 0) ( N.cond (N.lt s2.1 0) ( N.ite (0 ≤ s2.2) ( N.ite (s2.2 < N.len (firstP keys l d)) (some (.inl (N.rd (firstP keys l d) s2.2 0, N.add .i64 s2.2 1))) none) none) ( N.ite (0 ≤ s2.2) ( N.ite (s2.2 < N.len (firstP keys l d)) ( N.cond (N.lt (N.rd (firstP keys l d) s2.2 0) s2.1) ( N.ite (0 ≤ s2.2) ( N.ite (s2.2 < N.len (firstP keys l d)) (some (.inl (N.rd (firstP keys l d) s2.2 0, N.add .i64 s2.2 1))) none) none) (some (.inl (s2.1, N.add .i64 s2.2 1)))) none) none)) (some (.inl (s2.1, N.add .i64 s2.2 1)))) none) none)
      ( Option.map Sum.inr ( N.bind (impl_ProvenBy keys (N.app (N.app [] l) [s]) d k) fun r6 => N.cond (N.ge s2.1 0) ( N.cond (N.ge r6 0) ( N.cond (N.lt r6 s2.1) (some false) (some true)) (some true)) (some true)))) (-1, 1) = some true := by
  have hfl := first_len keys l d
  have hal : N.app (N.app [] l) [s] = l ++ [s] := rfl
  rw [hal, impl_ProvenBy_is (by omega) (by simp; omega)]
  simp only [bind_some']
  have hvals := firstP_vals keys (l ++ [s]) d
  have htail := forged_tail keys l d s hs
  generalize hf2 : firstP keys (l ++ [s]) d = f2 at *
  generalize firstP keys l d = f at *
  refine (fun (key : ∃ r, loopF _ _ = some r ∧ r = true) => key.elim fun r h => h.1.trans (congrArg some h.2)) (loop_meas (fun s => ∃ i : Nat, s.2 = (i : Int) ∧ 1 ≤ i ∧ (0 ≤ s.1 → ∀ (j : Nat) (hj : j < f.length), 1 ≤ j → j < i → 0 ≤ f[j] → s.1 ≤ f[j]) ∧ (s.1 < 0 → ∀ (j : Nat) (hj : j < f.length), 1 ≤ j → j < i → f[j] < 0)) (fun s => f.length - s.2.toNat)
    (fun r => r = true) (fun s hI => ?_) (-1, 1) ⟨1, rfl, Nat.le_refl _, fun h => by simp at h, fun _ j hj h1 h2 => by omega⟩)
  obtain ⟨h, i0⟩ := s
  obtain ⟨i, hi0, hi1, g1, g2⟩ := hI
  simp only at hi0 g1 g2
  subst hi0
  by_cases hlt : i < f.length
  · left
    have i1 : (i : Int) < (f.length : Int) := by omega
    simp only [len_d, lt_tt i1, cond_true, rd_at f i hlt, next_id hlt (by omega)]
    rw [nite_pos (by omega), nite_pos (by omega)]
    by_cases hge : 0 ≤ f[i]
    · rw [show N.ge f[i] 0 = true by rw [ge_d]; exact decide_eq_true hge, cond_true]
      by_cases hh : h < 0
      · refine ⟨(f[i], ((i + 1 : Nat) : Int)), by rw [lt_tt hh, cond_true, nite_pos (by omega), nite_pos (by omega)], ⟨i + 1, rfl, by omega, fun _ j hj q1 q2 q3 => ?_, fun hn => by simp only at hn; omega⟩, by simp only [Int.toNat_natCast]; omega⟩
        by_cases hji : j < i
        · have := g2 hh j hj q1 hji; omega
        · obtain rfl : j = i := by omega
          exact Int.le_refl _
      · by_cases hl2 : f[i] < h
        · refine ⟨(f[i], ((i + 1 : Nat) : Int)), by rw [lt_ff hh, cond_false, nite_pos (by omega), nite_pos (by omega), lt_tt hl2, cond_true, nite_pos (by omega), nite_pos (by omega)], ⟨i + 1, rfl, by omega, fun _ j hj q1 q2 q3 => ?_, fun hn => by simp only at hn; omega⟩, by simp only [Int.toNat_natCast]; omega⟩
          by_cases hji : j < i
          · have := g1 (by omega) j hj q1 hji q3
            simp only; omega
          · obtain rfl : j = i := by omega
            exact Int.le_refl _
        · refine ⟨(h, ((i + 1 : Nat) : Int)), by rw [lt_ff hh, cond_false, nite_pos (by omega), nite_pos (by omega), lt_ff hl2, cond_false], ⟨i + 1, rfl, by omega, fun _ j hj q1 q2 q3 => ?_, fun hn => absurd hn hh⟩, by simp only [Int.toNat_natCast]; omega⟩
          by_cases hji : j < i
          · exact g1 (by omega) j hj q1 hji q3
          · obtain rfl : j = i := by omega
            simp only; omega
    · refine ⟨(h, ((i + 1 : Nat) : Int)), by rw [show N.ge f[i] 0 = false by rw [ge_d]; exact decide_eq_false hge, cond_false], ⟨i + 1, rfl, by omega, fun hh j hj q1 q2 q3 => ?_, fun hh j hj q1 q2 => ?_⟩, by simp only [Int.toNat_natCast]; omega⟩
      · by_cases hji : j < i
        · exact g1 hh j hj q1 hji q3
        · obtain rfl : j = i := by omega
          omega
      · by_cases hji : j < i
        · exact g2 hh j hj q1 hji
        · obtain rfl : j = i := by omega
          omega
  · right
    refine ⟨true, ?_, rfl⟩
    simp only [len_d, lt_ff (show ¬ (i : Int) < (f.length : Int) by omega), cond_false]
    by_cases hh : 0 ≤ h
    · rw [show N.ge h 0 = true by rw [ge_d]; exact decide_eq_true hh, cond_true]
      by_cases hu : 0 ≤ N.provenAt f2 k
      · rw [show N.ge (N.provenAt f2 k) 0 = true by rw [ge_d]; exact decide_eq_true hu, cond_true]
        have hin := (proven_ge f2 hvals k).1 hu
        have hcnt := upto_ge f2 hvals hin
        have hne : ¬ N.provenAt f2 k < h := fun hlt2 => by
          have h2 : 1 ≤ (f2.drop 1).countP fun x => decide (0 ≤ x) && decide (x ≤ N.provenAt f2 k) := by
            have : f2 = f2.take 1 ++ f2.drop 1 := (List.take_append_drop _ _).symm
            rw [this, List.countP_append] at hcnt
            have h3 : (f2.take 1).countP (fun x => decide (0 ≤ x) && decide (x ≤ N.provenAt (f2.take 1 ++ f2.drop 1) k)) ≤ 1 := Nat.le_trans List.countP_le_length (by simp; omega)
            rw [← this] at hcnt h3
            omega
          rw [htail] at h2
          obtain ⟨y, hy, hyp⟩ := List.countP_pos_iff.1 h2
          simp only [Bool.and_eq_true, decide_eq_true_eq] at hyp
          obtain ⟨j, hj, rfl⟩ := List.getElem_of_mem hy
          have hj' : 1 + j < f.length := by simp at hj; omega
          rw [List.getElem_drop] at hyp
          have := g1 hh (1 + j) hj' (by omega) (by omega) hyp.1
          omega
        rw [lt_ff hne, cond_false]; rfl
      · rw [show N.ge (N.provenAt f2 k) 0 = false by rw [ge_d]; exact decide_eq_false hu, cond_false]; rfl
    · rw [show N.ge h 0 = false by rw [ge_d]; exact decide_eq_false hh, cond_false]; rfl

theorem cnt_step (f : List Int) (i : Nat) (hi : i < f.length) (p : Int → Bool) : ((f.take (i + 1)).countP p) = (f.take i).countP p + (if p f[i] = true then 1 else 0) := by
  rw [List.take_succ_eq_append_getElem hi, List.countP_append]
  by_cases h : p f[i] = true <;> simp [h]

theorem FnProven_true (x : List Int) (hx : bd x) : laws_FnProven x = some true := by
  unfold laws_FnProven laws_big
  rw [bind_some', len_d, gt_d, cond_dec]
  by_cases hl : x.length ≤ 1048576
  · rw [if_neg (by omega)]
    obtain ⟨⟨keys, l, d, k⟩, e, ⟨k1, k5⟩, l8⟩ := spec_DrawProvenBy_is hl
    simp only at k1 k5 l8
    rw [e, bind_some']
    simp only [last_check hl keys l l8]
    simp only [impl_ProvenBy_is (show keys.length ≤ 1048576 by omega) (show l.length ≤ 1048576 by omega), impl_FirstSeen_is (show keys.length ≤ 1048576 by omega) (show l.length ≤ 1048576 by omega), bind_some', impl_SealStatement_is]
    have hfl := first_len keys l d
    have hv := firstP_vals keys l d
    have hsl := seen_count _ hv
    have hpg := proven_ge _ hv k
    have hbl := fun h => before_le _ hv (k := k) h
    refine (loop_upto (firstP keys l d).length (fun (i : Nat) (s : Int × Int) => (s.1, s.2, (i : Int))) (fun i => ((((firstP keys l d).take i).countP fun x => decide (0 ≤ x) && decide (x < N.provenAt (firstP keys l d) k) : Nat), (((firstP keys l d).take i).countP fun x => decide (0 ≤ x) : Nat))) true (fun i hi => ?_) ?_ :)
    · have c1 : ((firstP keys l d).take i).countP (fun x => decide (0 ≤ x) && decide (x < N.provenAt (firstP keys l d) k)) ≤ i := Nat.le_trans List.countP_le_length (by simp; omega)
      have c2 : ((firstP keys l d).take i).countP (fun x => decide (0 ≤ x)) ≤ i := Nat.le_trans List.countP_le_length (by simp; omega)
      rw [cnt_step _ i hi, cnt_step _ i hi]
      generalize ((firstP keys l d).take i).countP (fun x => decide (0 ≤ x) && decide (x < N.provenAt (firstP keys l d) k)) = A at *
      generalize ((firstP keys l d).take i).countP (fun x => decide (0 ≤ x)) = B at *
      simp only [len_d, lt_tt (show (i : Int) < ((firstP keys l d).length : Int) by omega), cond_true, rd_at _ i hi, next_id hi (by omega)]
      rw [nite_pos (by omega), nite_pos (by omega)]
      by_cases hge : 0 ≤ (firstP keys l d)[i]
      · rw [show N.ge (firstP keys l d)[i] 0 = true by rw [ge_d]; exact decide_eq_true hge, cond_true, nite_pos (by omega), nite_pos (by omega), cond_true, nite_pos (by omega), nite_pos (by omega), add_id (a := (B : Int)) (by omega) (by omega)]
        by_cases hlt : (firstP keys l d)[i] < N.provenAt (firstP keys l d) k
        · rw [lt_tt hlt, cond_true, add_id (by omega) (by omega)]; simp [hge, hlt]
        · rw [lt_ff hlt, cond_false]; simp [hge, hlt]
      · rw [show N.ge (firstP keys l d)[i] 0 = false by rw [ge_d]; exact decide_eq_false hge, cond_false, nite_pos (by omega), nite_pos (by omega), cond_false]; simp [hge]
    · simp only [len_d (firstP keys l d), lt_self, cond_false, List.take_length, ← hsl]
      have hst : (sealP (N.rd keys 0 0) (0, d, 0, 0)).1 = 0 := rfl
      generalize sealP (N.rd keys 0 0) (0, d, 0, 0) = st at *
      have hloop := fun hk1 => honest_loop keys l l8 k5 d k hk1 st hst
      simp only [len_d (firstP keys l d)] at hloop
      by_cases ht : 0 ≤ N.provenAt (firstP keys l d) k
      · have hin := hpg.1 ht
        have hb := hbl hin
        have e1 : N.ge (N.provenAt (firstP keys l d) k) 0 = true := by rw [ge_d]; exact decide_eq_true ht
        have e2 : N.ge k 0 = true := by rw [ge_d]; exact decide_eq_true hin.1
        simp only [e1, e2, lt_tt hin.2, show N.neB true true = false from rfl, cond_true, cond_false]
        rw [gt_ff (by omega), cond_false]
        by_cases hk1 : 1 ≤ k
        · have e3 : N.ge k 1 = true := by rw [ge_d]; exact decide_eq_true hk1
          rw [e3, cond_true, nite_pos (fitsN (by simp; omega) (by omega)), nite_pos (by rw [len_d]; omega), nite_pos (fitsN (by simp [N.app]; omega) (by omega)), hloop hk1]
          by_cases hk2 : N.gt (N.len keys) 1 = true
          · rw [hk2]; rfl
          · rw [show N.gt (N.len keys) 1 = false by simpa using hk2]; rfl
        · have e3 : N.ge k 1 = false := by rw [ge_d]; exact decide_eq_false hk1
          rw [e3, cond_false]
          by_cases hk2 : N.gt (N.len keys) 1 = true
          · rw [hk2]; rfl
          · rw [show N.gt (N.len keys) 1 = false by simpa using hk2]; rfl
      · have hnin := fun h => ht (hpg.2 h)
        have e1 : N.ge (N.provenAt (firstP keys l d) k) 0 = false := by rw [ge_d]; exact decide_eq_false ht
        simp only [e1, cond_false]
        by_cases hk2 : N.gt (N.len keys) 1 = true
        · by_cases hk0 : 0 ≤ k
          · have e2 : N.ge k 0 = true := by rw [ge_d]; exact decide_eq_true hk0
            rw [e2, cond_true, lt_ff (fun h => hnin ⟨hk0, h⟩), hk2]; rfl
          · have e2 : N.ge k 0 = false := by rw [ge_d]; exact decide_eq_false hk0
            rw [e2, cond_false, hk2]; rfl
        · rw [show N.gt (N.len keys) 1 = false by simpa using hk2]
          by_cases hk0 : 0 ≤ k
          · have e2 : N.ge k 0 = true := by rw [ge_d]; exact decide_eq_true hk0
            rw [e2, cond_true, lt_ff (fun h => hnin ⟨hk0, h⟩)]; rfl
          · have e2 : N.ge k 0 = false := by rw [ge_d]; exact decide_eq_false hk0
            rw [e2, cond_false]; rfl
  · rw [if_pos (by omega)]
end Go.Sh.D
