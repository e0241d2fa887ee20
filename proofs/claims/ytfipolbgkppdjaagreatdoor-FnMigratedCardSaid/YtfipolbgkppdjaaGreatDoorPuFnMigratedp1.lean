/- The native forms of the functions that FnMigrated reaches, and their pure laws, part 1: FnMigrated is true for every input of bounded parts. No condition beyond the bounds that every input keeps. -/
import Derived.Test.YtfipolbgkppdjaaGreatDoorSh9
set_option linter.unusedVariables false
set_option maxRecDepth 100000
set_option maxHeartbeats 4000000
namespace Go.Sh
open Go
namespace N
def nostr : ByteArray := ByteArray.empty
def lit (l : List UInt8) : ByteArray := ⟨l.toArray⟩
def let_ {α R : Type} (x : α) (f : α → Option R) : Option R := f x
end N
namespace D
abbrev Op : Type := Int × Int × Int × Int
abbrev Address : Type := Int × Int × Int
abbrev Resource : Type := Int × (List Int) × Address
abbrev Version : Type := Address × Int × Resource
abbrev Visit : Type := (List Version) × Int × Int × (List Int)
abbrev Entry : Type := Int × Address × Int
abbrev State : Type := Int × (List Int) × (List Int) × (List Int)
abbrev Played : Type := Int × Int × State
abbrev Want : Type := Int × Address
abbrev l1Cur : Type := (List Int) × Int × Int
noncomputable def laws_big (x0 : List Int) : Option (Bool) :=
  some (N.gt (N.len x0) 1048576)

noncomputable def spec_l1New (x0 : List Int) : Option (l1Cur) :=
  loopF (fun (s1 : Int × Int) =>
      N.cond (N.lt s1.2 (N.len x0))
        (
          N.cond (N.lt s1.2 4000)
            (
              N.ite (0 ≤ s1.2)
                (
                  N.ite (s1.2 < N.len x0)
                    (some (.inl (N.and .i64 (N.add .i64 (N.add .i64 (N.mul .i64 s1.1 137) (N.conv .i64 (N.rd x0 s1.2 0))) 11) 1073741823, N.add .i64 s1.2 1)))
                    none)
                none)
            (some (.inr (x0, 0, s1.1))))
        (some (.inr (x0, 0, s1.1))))
    (N.add .i64 193017 (N.len x0), 0)

noncomputable def spec_l1Byte (x0 : l1Cur) : Option (Int × l1Cur) :=
  N.cond (N.lt x0.2.1 (N.len x0.1))
    (
      N.ite (0 ≤ x0.2.1)
        (
          N.ite (x0.2.1 < N.len x0.1)
            (some (N.and .i64 (N.add .i64 (N.and .i64 (N.xor .i64 (N.shr .i64 (N.add .i64 (N.mul .i64 x0.2.2 6364136223846793005) 1442695040888963407) 33) (N.shr .i64 (N.add .i64 (N.mul .i64 x0.2.2 6364136223846793005) 1442695040888963407) 47)) 255) (N.conv .i64 (N.rd x0.1 x0.2.1 0))) 255, (x0.1, N.add .i64 x0.2.1 1, N.add .i64 (N.mul .i64 x0.2.2 6364136223846793005) 1442695040888963407)))
            none)
        none)
    (some (N.and .i64 (N.xor .i64 (N.shr .i64 (N.add .i64 (N.mul .i64 x0.2.2 6364136223846793005) 1442695040888963407) 33) (N.shr .i64 (N.add .i64 (N.mul .i64 x0.2.2 6364136223846793005) 1442695040888963407) 47)) 255, (x0.1, x0.2.1, N.add .i64 (N.mul .i64 x0.2.2 6364136223846793005) 1442695040888963407)))

noncomputable def spec_l1Below (x0 : l1Cur) (x1 : Int) : Option (Int × l1Cur) :=
  N.cond (N.le x1 0)
    (some (0, x0))
    (
      N.cond (N.le x1 256)
        (
          N.bind (spec_l1Byte x0) fun r1 =>
            N.ite (x1 = 0)
              none
              (some (N.rem r1.1 x1, r1.2)))
        (
          N.bind (spec_l1Byte x0) fun r2 =>
            N.bind (spec_l1Byte r2.2) fun r3 =>
              N.bind (spec_l1Byte r3.2) fun r4 =>
                N.ite (x1 = 0)
                  none
                  (some (N.rem (N.add .i64 (N.add .i64 (N.mul .i64 r2.1 65536) (N.mul .i64 r3.1 256)) r4.1) x1, r4.2))))

noncomputable def spec_l1Once (x0 : l1Cur) (x1 : Int) : Option (Bool × l1Cur) :=
  N.bind (spec_l1Below x0 x1) fun r1 =>
    some (N.eq r1.1 0, r1.2)

noncomputable def spec_l10Op (x0 : l1Cur) : Option (Op × l1Cur) :=
  N.bind (spec_l1Below x0 9) fun r1 =>
    N.bind (spec_l1Below r1.2 3) fun r2 =>
      N.bind (spec_l1Once r2.2 3) fun r3 =>
        N.cond r3.1
          (
            N.bind (spec_l1Below r3.2 3) fun r4 =>
              N.bind (spec_l1Below r4.2 3) fun r5 =>
                some ((1, r2.1, N.add .i64 1 r4.1, r5.1), r5.2))
          (
            N.cond (N.eq (N.add .i64 1 r1.1) 1)
              (
                N.bind (spec_l1Below r3.2 3) fun r6 =>
                  N.bind (spec_l1Below r6.2 3) fun r7 =>
                    some ((N.add .i64 1 r1.1, r2.1, N.add .i64 1 r6.1, r7.1), r7.2))
              (
                N.cond (N.eq (N.add .i64 1 r1.1) 5)
                  (
                    N.bind (spec_l1Below r3.2 4) fun r8 =>
                      N.bind (spec_l1Below r8.2 4) fun r9 =>
                        some ((N.add .i64 1 r1.1, r2.1, r8.1, r9.1), r9.2))
                  (
                    N.cond (N.eq (N.add .i64 1 r1.1) 6)
                      (
                        N.bind (spec_l1Below r3.2 4) fun r10 =>
                          some ((N.add .i64 1 r1.1, r2.1, r10.1, 0), r10.2))
                      (
                        N.cond (N.eq (N.add .i64 1 r1.1) 7)
                          (
                            N.bind (spec_l1Below r3.2 3) fun r11 =>
                              some ((N.add .i64 1 r1.1, r2.1, N.add .i64 1 r11.1, 0), r11.2))
                          (
                            N.cond (N.eq (N.add .i64 1 r1.1) 8)
                              (
                                N.cond (N.eq (N.add .i64 1 r1.1) 8)
                                  (
                                    N.bind (spec_l1Below r3.2 3) fun r12 =>
                                      some ((N.add .i64 1 r1.1, r2.1, r12.1, 0), r12.2))
                                  (some ((N.add .i64 1 r1.1, r2.1, 0, 0), r3.2)))
                              (
                                N.cond (N.eq (N.add .i64 1 r1.1) 9)
                                  (
                                    N.bind (spec_l1Below r3.2 3) fun r13 =>
                                      some ((N.add .i64 1 r1.1, r2.1, r13.1, 0), r13.2))
                                  (some ((N.add .i64 1 r1.1, r2.1, 0, 0), r3.2))))))))

noncomputable def spec_l10Draw (x0 : l1Cur) : Option ((List Op) × l1Cur) :=
  N.bind (spec_l1Below x0 13) fun r1 =>
    loopF (fun (s1 : List Op × Int × (List Int × Int × Int)) =>
        N.cond (N.gt s1.2.1 0)
          (
            N.bind (spec_l10Op s1.2.2) fun r2 =>
              N.ite (N.fits s1.1 [r2.1] 32)
                (some (.inl (N.app s1.1 [r2.1], N.sub .i64 s1.2.1 1, r2.2)))
                none)
          (some (.inr (s1.1, s1.2.2))))
      ([], r1.1, r1.2)

noncomputable def spec_l1Int (x0 : l1Cur) (x1 : List Int) : Option (Int × l1Cur) :=
  N.bind (spec_l1Below x0 (N.len x1)) fun r1 =>
    N.ite (0 ≤ r1.1)
      (
        N.ite (r1.1 < N.len x1)
          (some (N.rd x1 r1.1 0, r1.2))
          none)
      none

noncomputable def spec_l4Raw (x0 : l1Cur) : Option (Int × l1Cur) :=
  N.bind (spec_l1Int x0 [(-1), 0, 9, 10, 99, 100, 9223372036854775807, (-9223372036854775808)]) fun r1 =>
    some r1

noncomputable def spec_l10Any (x0 : l1Cur) : Option ((List Op) × l1Cur) :=
  N.bind (spec_l10Draw x0) fun r1 =>
    N.cond (N.eq (N.len r1.1) 0)
      (some r1)
      (
        N.bind (spec_l1Below r1.2 (N.len r1.1)) fun r2 =>
          N.bind (spec_l1Below r2.2 12) fun r3 =>
            N.cond (N.eq r3.1 0)
              (
                N.bind (spec_l1Int r3.2 [0, 10, 5]) fun r4 =>
                  N.ite (0 ≤ r2.1)
                    (
                      N.ite (r2.1 < N.len r1.1)
                        (
                          N.let_ (N.set r1.1 r2.1 (r4.1, (N.rd r1.1 r2.1 (0, 0, 0, 0)).2.1, (N.rd r1.1 r2.1 (0, 0, 0, 0)).2.2.1, (N.rd r1.1 r2.1 (0, 0, 0, 0)).2.2.2)) fun v1 =>
                            some (v1, r4.2))
                        none)
                    none)
              (
                N.cond (N.eq r3.1 1)
                  (
                    N.bind (spec_l1Int r3.2 [(-1), 3, 4]) fun r5 =>
                      N.ite (0 ≤ r2.1)
                        (
                          N.ite (r2.1 < N.len r1.1)
                            (
                              N.let_ (N.set r1.1 r2.1 ((N.rd r1.1 r2.1 (0, 0, 0, 0)).1, r5.1, (N.rd r1.1 r2.1 (0, 0, 0, 0)).2.2.1, (N.rd r1.1 r2.1 (0, 0, 0, 0)).2.2.2)) fun v2 =>
                                some (v2, r5.2))
                            none)
                        none)
                  (
                    N.cond (N.eq r3.1 2)
                      (
                        N.bind (spec_l4Raw r3.2) fun r6 =>
                          N.ite (0 ≤ r2.1)
                            (
                              N.ite (r2.1 < N.len r1.1)
                                (
                                  N.let_ (N.set r1.1 r2.1 ((N.rd r1.1 r2.1 (0, 0, 0, 0)).1, (N.rd r1.1 r2.1 (0, 0, 0, 0)).2.1, r6.1, (N.rd r1.1 r2.1 (0, 0, 0, 0)).2.2.2)) fun v3 =>
                                    some (v3, r6.2))
                                none)
                            none)
                      (
                        N.cond (N.eq r3.1 3)
                          (
                            N.bind (spec_l4Raw r3.2) fun r7 =>
                              N.ite (0 ≤ r2.1)
                                (
                                  N.ite (r2.1 < N.len r1.1)
                                    (
                                      N.let_ (N.set r1.1 r2.1 ((N.rd r1.1 r2.1 (0, 0, 0, 0)).1, (N.rd r1.1 r2.1 (0, 0, 0, 0)).2.1, (N.rd r1.1 r2.1 (0, 0, 0, 0)).2.2.1, r7.1)) fun v4 =>
                                        some (v4, r7.2))
                                    none)
                                none)
                          (
                            N.cond (N.eq r3.1 4)
                              (
                                loopF (fun (s1 : List Op) =>
                                    N.cond (N.lt (N.len s1) 17)
                                      (
                                        N.ite (N.fits s1 [(2, 0, 0, 0)] 32)
                                          (some (.inl (N.app s1 [(2, 0, 0, 0)])))
                                          none)
                                      (some (.inr (s1, r3.2))))
                                  r1.1)
                              (some (r1.1, r3.2)))))))

noncomputable def spec_l4Draw (x0 : l1Cur) : Option (Address × l1Cur) :=
  N.bind (spec_l1Below x0 3) fun r1 =>
    N.bind (spec_l1Below r1.2 3) fun r2 =>
      N.bind (spec_l1Below r2.2 3) fun r3 =>
        some ((N.add .i64 1 r1.1, r2.1, r3.1), r3.2)

noncomputable def spec_l5Body (x0 : l1Cur) : Option ((List Int) × l1Cur) :=
  N.bind (spec_l1Below x0 5) fun r1 =>
    loopF (fun (s1 : List Int × Int × (List Int × Int × Int)) =>
        N.cond (N.gt s1.2.1 0)
          (
            N.bind (spec_l1Below s1.2.2 9) fun r2 =>
              N.ite (N.fits s1.1 [r2.1] 8)
                (some (.inl (N.app s1.1 [r2.1], N.sub .i64 s1.2.1 1, r2.2)))
                none)
          (some (.inr (s1.1, s1.2.2))))
      ([], r1.1, r1.2)

noncomputable def spec_l5Draw (x0 : l1Cur) : Option (Int × (List Int) × Int × Int × Int × l1Cur) :=
  N.bind (spec_l1Below x0 6) fun r1 =>
    N.cond (N.eq r1.1 0)
      (
        N.bind (spec_l4Draw r1.2) fun r2 =>
          some (3, [], r2.1.1, r2.1.2.1, r2.1.2.2, r2.2))
      (
        N.cond (N.eq r1.1 1)
          (some (4, [], 0, 0, 0, r1.2))
          (
            N.bind (spec_l1Below r1.2 2) fun r3 =>
              N.bind (spec_l5Body r3.2) fun r4 =>
                some (N.add .i64 1 r3.1, r4.1, 0, 0, 0, r4.2)))

noncomputable def spec_l9Draw (x0 : l1Cur) : Option ((List Version) × l1Cur) :=
  N.bind (spec_l1Below x0 9) fun r1 =>
    loopF (fun (s1 : List Version × Int × (List Int × Int × Int)) =>
        N.cond (N.gt s1.2.1 0)
          (
            N.bind (spec_l4Draw s1.2.2) fun r2 =>
              N.bind (spec_l1Below r2.2 12) fun r3 =>
                N.bind (spec_l5Draw r3.2) fun r4 =>
                  N.ite (N.fits s1.1 [(r2.1, r3.1, (r4.1, r4.2.1, (r4.2.2.1, r4.2.2.2.1, r4.2.2.2.2.1)))] 88)
                    (some (.inl (N.app s1.1 [(r2.1, r3.1, (r4.1, r4.2.1, (r4.2.2.1, r4.2.2.2.1, r4.2.2.2.2.1)))], N.sub .i64 s1.2.1 1, r4.2.2.2.2.2)))
                    none)
          (some (.inr (s1.1, s1.2.2))))
      ([], r1.1, r1.2)

noncomputable def spec_l12Draw (x0 : l1Cur) : Option ((List Version) × Int × Int × (List Int) × l1Cur) :=
  N.bind (spec_l9Draw x0) fun r1 =>
    N.bind (spec_l1Below r1.2 12) fun r2 =>
      N.bind (spec_l1Below r2.2 50) fun r3 =>
        N.bind (spec_l1Below r3.2 4) fun r4 =>
          loopF (fun (s1 : Int × (List Int × Int × Int) × (List Version × Int × Int × List Int)) =>
              N.cond (N.gt s1.1 0)
                (
                  N.bind (spec_l1Below s1.2.1 9) fun r5 =>
                    N.ite (N.fits s1.2.2.2.2.2 [r5.1] 8)
                      (some (.inl (N.sub .i64 s1.1 1, r5.2, (s1.2.2.1, s1.2.2.2.1, s1.2.2.2.2.1, N.app s1.2.2.2.2.2 [r5.1]))))
                      none)
                (some (.inr (s1.2.2.1, s1.2.2.2.1, s1.2.2.2.2.1, s1.2.2.2.2.2, s1.2.1))))
            (r4.1, r4.2, (r1.1, r2.1, r3.1, []))

noncomputable def spec_l4Any (x0 : l1Cur) : Option (Address × l1Cur) :=
  N.bind (spec_l4Draw x0) fun r1 =>
    N.bind (spec_l1Below r1.2 9) fun r2 =>
      N.cond (N.eq r2.1 0)
        (
          N.bind (spec_l4Raw r2.2) fun r3 =>
            some ((r3.1, r1.1.2.1, r1.1.2.2), r3.2))
        (
          N.cond (N.eq r2.1 1)
            (
              N.bind (spec_l4Raw r2.2) fun r4 =>
                some ((r1.1.1, r4.1, r1.1.2.2), r4.2))
            (
              N.cond (N.eq r2.1 2)
                (
                  N.bind (spec_l4Raw r2.2) fun r5 =>
                    some ((r1.1.1, r1.1.2.1, r5.1), r5.2))
                (some (r1.1, r2.2))))

noncomputable def spec_l5Any (x0 : l1Cur) : Option (Int × (List Int) × Int × Int × Int × l1Cur) :=
  N.bind (spec_l5Draw x0) fun r1 =>
    N.bind (spec_l1Below r1.2.2.2.2.2 9) fun r2 =>
      N.cond (N.eq r2.1 0)
        (
          N.bind (spec_l1Int r2.2 [0, 5, 3, 4]) fun r3 =>
            some (r3.1, r1.2.1, r1.2.2.1, r1.2.2.2.1, r1.2.2.2.2.1, r3.2))
        (
          N.cond (N.eq r2.1 1)
            (
              N.bind (spec_l1Int r2.2 [(-1), 255, 256]) fun r4 =>
                N.ite (N.fits r1.2.1 [r4.1] 8)
                  (some (r1.1, N.app r1.2.1 [r4.1], r1.2.2.1, r1.2.2.2.1, r1.2.2.2.2.1, r4.2))
                  none)
            (
              N.cond (N.eq r2.1 2)
                (some (r1.1, [1, 2, 3, 4, 5, 6, 7], r1.2.2.1, r1.2.2.2.1, r1.2.2.2.2.1, r2.2))
                (
                  N.cond (N.eq r2.1 3)
                    (
                      N.bind (spec_l4Any r2.2) fun r5 =>
                        some (r1.1, r1.2.1, r5.1.1, r5.1.2.1, r5.1.2.2, r5.2))
                    (some (r1.1, r1.2.1, r1.2.2.1, r1.2.2.2.1, r1.2.2.2.2.1, r2.2)))))

noncomputable def spec_l9Any (x0 : l1Cur) : Option ((List Version) × l1Cur) :=
  N.bind (spec_l9Draw x0) fun r1 =>
    N.cond (N.eq (N.len r1.1) 0)
      (some r1)
      (
        N.bind (spec_l1Below r1.2 (N.len r1.1)) fun r2 =>
          N.bind (spec_l1Below r2.2 9) fun r3 =>
            N.cond (N.eq r3.1 0)
              (
                N.bind (spec_l4Any r3.2) fun r4 =>
                  N.ite (0 ≤ r2.1)
                    (
                      N.ite (r2.1 < N.len r1.1)
                        (
                          N.let_ (N.set r1.1 r2.1 (r4.1, (N.rd r1.1 r2.1 ((0, 0, 0), 0, (0, [], (0, 0, 0)))).2.1, (N.rd r1.1 r2.1 ((0, 0, 0), 0, (0, [], (0, 0, 0)))).2.2)) fun v1 =>
                            some (v1, r4.2))
                        none)
                    none)
              (
                N.cond (N.eq r3.1 1)
                  (
                    N.bind (spec_l1Int r3.2 [(-1), 1000, 1001]) fun r5 =>
                      N.ite (0 ≤ r2.1)
                        (
                          N.ite (r2.1 < N.len r1.1)
                            (
                              N.let_ (N.set r1.1 r2.1 ((N.rd r1.1 r2.1 ((0, 0, 0), 0, (0, [], (0, 0, 0)))).1, r5.1, (N.rd r1.1 r2.1 ((0, 0, 0), 0, (0, [], (0, 0, 0)))).2.2)) fun v2 =>
                                some (v2, r5.2))
                            none)
                        none)
                  (
                    N.cond (N.eq r3.1 2)
                      (
                        N.bind (spec_l5Any r3.2) fun r6 =>
                          N.ite (0 ≤ r2.1)
                            (
                              N.ite (r2.1 < N.len r1.1)
                                (
                                  N.let_ (N.set r1.1 r2.1 ((N.rd r1.1 r2.1 ((0, 0, 0), 0, (0, [], (0, 0, 0)))).1, (N.rd r1.1 r2.1 ((0, 0, 0), 0, (0, [], (0, 0, 0)))).2.1, (r6.1, r6.2.1, (r6.2.2.1, r6.2.2.2.1, r6.2.2.2.2.1)))) fun v3 =>
                                    some (v3, r6.2.2.2.2.2))
                                none)
                            none)
                      (some (r1.1, r3.2)))))

noncomputable def spec_l12Any (x0 : l1Cur) : Option ((List Version) × Int × Int × (List Int) × l1Cur) :=
  N.bind (spec_l12Draw x0) fun r1 =>
    N.bind (spec_l1Below r1.2.2.2.2 9) fun r2 =>
      N.cond (N.eq r2.1 0)
        (
          N.bind (spec_l1Int r2.2 [(-1), 1000, 1001]) fun r3 =>
            some (r1.1, r3.1, r1.2.2.1, r1.2.2.2.1, r3.2))
        (
          N.cond (N.eq r2.1 1)
            (
              N.bind (spec_l1Int r2.2 [(-1), 9999, 10000]) fun r4 =>
                some (r1.1, r1.2.1, r4.1, r1.2.2.2.1, r4.2))
            (
              N.cond (N.eq r2.1 2)
                (
                  N.bind (spec_l1Int r2.2 [(-1), 999, 1000]) fun r5 =>
                    N.ite (N.fits r1.2.2.2.1 [r5.1] 8)
                      (some (r1.1, r1.2.1, r1.2.2.1, N.app r1.2.2.2.1 [r5.1], r5.2))
                      none)
                (
                  N.cond (N.eq r2.1 3)
                    (
                      N.bind (spec_l9Any r2.2) fun r6 =>
                        some (r6.1, r1.2.1, r1.2.2.1, r1.2.2.2.1, r6.2))
                    (
                      N.cond (N.eq r2.1 4)
                        (
                          loopF (fun (s1 : (List Version × Int × Int × List Int)) =>
                              N.cond (N.lt (N.len s1.2.2.2) 9)
                                (
                                  N.ite (N.fits s1.2.2.2 [1] 8)
                                    (some (.inl (s1.1, s1.2.1, s1.2.2.1, N.app s1.2.2.2 [1])))
                                    none)
                                (some (.inr (s1.1, s1.2.1, s1.2.2.1, s1.2.2.2, r2.2))))
                            (r1.1, r1.2.1, r1.2.2.1, r1.2.2.2.1))
                        (some (r1.1, r1.2.1, r1.2.2.1, r1.2.2.2.1, r2.2))))))

noncomputable def spec_DrawRecordVisit (x0 : List Int) : Option ((List Op) × (List Version) × Int × Int × (List Int)) :=
  N.bind (spec_l1New x0) fun r1 =>
    N.bind (spec_l10Any r1) fun r2 =>
      N.bind (spec_l12Any r2.2) fun r3 =>
        some (r2.1, r3.1, r3.2.1, r3.2.2.1, r3.2.2.2.1)

noncomputable def impl_StartState : Option (Int × (List Int) × (List Int) × (List Int)) :=
  some (0, N.rep 4 (0 : Int), N.rep 3 (0 : Int), N.rep 4 (0 : Int))

noncomputable def impl_at (x0 : Int) (x1 : Int) : Option (Bool) :=
  N.cond (N.ge x0 0)
    (some (N.lt x0 x1))
    (some false)

noncomputable def impl_InRange (x0 : Int) (x1 : Int) (x2 : Int) : Option (Bool) :=
  N.cond (N.le x1 x0)
    (some (N.le x0 x2))
    (some false)

noncomputable def impl_isOp (x0 : Op) : Option (Bool) :=
  N.bind (impl_at x0.2.1 4) fun r1 =>
    N.cond (N.not r1)
      (some false)
      (
        N.cond (N.eq x0.1 1)
          (
            N.bind (impl_InRange x0.2.2.1 1 9) fun r2 =>
              N.cond r2
                (
                  N.bind (impl_InRange x0.2.2.2 0 99) fun r3 =>
                    some r3)
                (some false))
          (
            N.cond (N.eq x0.1 2)
              (
                N.cond (N.eq x0.1 2)
                  (
                    N.cond (N.eq x0.2.2.1 0)
                      (some (N.eq x0.2.2.2 0))
                      (some false))
                  (
                    N.cond (N.eq x0.1 5)
                      (
                        N.bind (impl_at x0.2.2.1 4) fun r4 =>
                          N.cond r4
                            (
                              N.bind (impl_at x0.2.2.2 4) fun r5 =>
                                some r5)
                            (some false))
                      (
                        N.cond (N.eq x0.1 6)
                          (
                            N.bind (impl_at x0.2.2.1 4) fun r6 =>
                              N.cond r6
                                (some (N.eq x0.2.2.2 0))
                                (some false))
                          (
                            N.cond (N.eq x0.1 7)
                              (
                                N.bind (impl_InRange x0.2.2.1 1 3) fun r7 =>
                                  N.cond r7
                                    (some (N.eq x0.2.2.2 0))
                                    (some false))
                              (
                                N.cond (N.eq x0.1 8)
                                  (
                                    N.cond (N.eq x0.1 8)
                                      (
                                        N.bind (impl_at x0.2.2.1 3) fun r8 =>
                                          N.cond r8
                                            (some (N.eq x0.2.2.2 0))
                                            (some false))
                                      (some false))
                                  (
                                    N.cond (N.eq x0.1 9)
                                      (
                                        N.bind (impl_at x0.2.2.1 3) fun r9 =>
                                          N.cond r9
                                            (some (N.eq x0.2.2.2 0))
                                            (some false))
                                      (some false)))))))
              (
                N.cond (N.eq x0.1 3)
                  (
                    N.cond (N.eq x0.1 3)
                      (
                        N.cond (N.eq x0.2.2.1 0)
                          (some (N.eq x0.2.2.2 0))
                          (some false))
                      (
                        N.cond (N.eq x0.1 5)
                          (
                            N.bind (impl_at x0.2.2.1 4) fun r10 =>
                              N.cond r10
                                (
                                  N.bind (impl_at x0.2.2.2 4) fun r11 =>
                                    some r11)
                                (some false))
                          (
                            N.cond (N.eq x0.1 6)
                              (
                                N.bind (impl_at x0.2.2.1 4) fun r12 =>
                                  N.cond r12
                                    (some (N.eq x0.2.2.2 0))
                                    (some false))
                              (
                                N.cond (N.eq x0.1 7)
                                  (
                                    N.bind (impl_InRange x0.2.2.1 1 3) fun r13 =>
                                      N.cond r13
                                        (some (N.eq x0.2.2.2 0))
                                        (some false))
                                  (
                                    N.cond (N.eq x0.1 8)
                                      (
                                        N.cond (N.eq x0.1 8)
                                          (
                                            N.bind (impl_at x0.2.2.1 3) fun r14 =>
                                              N.cond r14
                                                (some (N.eq x0.2.2.2 0))
                                                (some false))
                                          (some false))
                                      (
                                        N.cond (N.eq x0.1 9)
                                          (
                                            N.bind (impl_at x0.2.2.1 3) fun r15 =>
                                              N.cond r15
                                                (some (N.eq x0.2.2.2 0))
                                                (some false))
                                          (some false)))))))
                  (
                    N.cond (N.eq x0.1 4)
                      (
                        N.cond (N.eq x0.2.2.1 0)
                          (some (N.eq x0.2.2.2 0))
                          (some false))
                      (
                        N.cond (N.eq x0.1 5)
                          (
                            N.bind (impl_at x0.2.2.1 4) fun r16 =>
                              N.cond r16
                                (
                                  N.bind (impl_at x0.2.2.2 4) fun r17 =>
                                    some r17)
                                (some false))
                          (
                            N.cond (N.eq x0.1 6)
                              (
                                N.bind (impl_at x0.2.2.1 4) fun r18 =>
                                  N.cond r18
                                    (some (N.eq x0.2.2.2 0))
                                    (some false))
                              (
                                N.cond (N.eq x0.1 7)
                                  (
                                    N.bind (impl_InRange x0.2.2.1 1 3) fun r19 =>
                                      N.cond r19
                                        (some (N.eq x0.2.2.2 0))
                                        (some false))
                                  (
                                    N.cond (N.eq x0.1 8)
                                      (
                                        N.cond (N.eq x0.1 8)
                                          (
                                            N.bind (impl_at x0.2.2.1 3) fun r20 =>
                                              N.cond r20
                                                (some (N.eq x0.2.2.2 0))
                                                (some false))
                                          (some false))
                                      (
                                        N.cond (N.eq x0.1 9)
                                          (
                                            N.bind (impl_at x0.2.2.1 3) fun r21 =>
                                              N.cond r21
                                                (some (N.eq x0.2.2.2 0))
                                                (some false))
                                          (some false))))))))))

noncomputable def impl_IsScript_1 (x0 : Op) : Option (Bool) :=
  N.bind (impl_isOp x0) fun r1 =>
    some (N.not r1)

noncomputable def slices_IndexFunc_Op_impl_IsScript_1 (x0 : List Op) : Option (Int) :=
  loopF (fun (s1 : Int) =>
      N.cond (N.lt s1 (N.len x0))
        (
          N.ite (0 ≤ s1)
            (
              N.ite (s1 < N.len x0)
                (
                  N.bind (impl_IsScript_1 (N.rd x0 s1 (0, 0, 0, 0))) fun r1 =>
                    N.cond r1
                      (some (.inr s1))
                      (some (.inl (N.add .i64 s1 1))))
                none)
            none)
        (some (.inr (-1))))
    0

noncomputable def slices_ContainsFunc_Op_impl_IsScript_1 (x0 : List Op) : Option (Bool) :=
  N.bind (slices_IndexFunc_Op_impl_IsScript_1 x0) fun r1 =>
    some (N.ge r1 0)

noncomputable def impl_IsScript (x0 : List Op) : Option (Bool) :=
  N.cond (N.le (N.len x0) 16)
    (
      N.bind (slices_ContainsFunc_Op_impl_IsScript_1 x0) fun r1 =>
        some (N.not r1))
    (some false)

noncomputable def impl_IsAddress (x0 : Address) : Option (Bool) :=
  N.bind (impl_InRange x0.1 1 9) fun r1 =>
    N.cond r1
      (
        N.bind (impl_InRange x0.2.1 0 99) fun r2 =>
          N.cond r2
            (
              N.bind (impl_InRange x0.2.2 0 99) fun r3 =>
                some r3)
            (some false))
      (some false)

noncomputable def impl_allIn (x0 : List Int) (x1 : Int) (x2 : Int) : Option (Bool) :=
  loopF (fun (s1 : Int) =>
      N.cond (N.lt s1 (N.len x0))
        (
          N.ite (0 ≤ s1)
            (
              N.ite (s1 < N.len x0)
                (
                  N.bind (impl_InRange (N.rd x0 s1 0) x1 x2) fun r1 =>
                    N.cond (N.not r1)
                      (some (.inr false))
                      (some (.inl (N.add .i64 s1 1))))
                none)
            none)
        (some (.inr true)))
    0

noncomputable def impl_IsResource (x0 : Resource) : Option (Bool) :=
  N.cond (N.eq x0.1 1)
    (
      N.cond (N.eq x0.1 1)
        (
          N.cond (N.le (N.len x0.2.1) 6)
            (
              N.bind (impl_allIn x0.2.1 0 255) fun r1 =>
                N.cond r1
                  (some (N.both (N.eq x0.2.2.1 0) (N.both (N.eq x0.2.2.2.1 0) (N.eq x0.2.2.2.2 0))))
                  (some false))
            (some false))
        (
          N.cond (N.eq x0.1 3)
            (
              N.cond (N.eq (N.len x0.2.1) 0)
                (
                  N.bind (impl_IsAddress x0.2.2) fun r2 =>
                    some r2)
                (some false))
            (
              N.cond (N.eq x0.1 4)
                (
                  N.cond (N.eq (N.len x0.2.1) 0)
                    (some (N.both (N.eq x0.2.2.1 0) (N.both (N.eq x0.2.2.2.1 0) (N.eq x0.2.2.2.2 0))))
                    (some false))
                (some false))))
    (
      N.cond (N.eq x0.1 2)
        (
          N.cond (N.le (N.len x0.2.1) 6)
            (
              N.bind (impl_allIn x0.2.1 0 255) fun r3 =>
                N.cond r3
                  (some (N.both (N.eq x0.2.2.1 0) (N.both (N.eq x0.2.2.2.1 0) (N.eq x0.2.2.2.2 0))))
                  (some false))
            (some false))
        (
          N.cond (N.eq x0.1 3)
            (
              N.cond (N.eq (N.len x0.2.1) 0)
                (
                  N.bind (impl_IsAddress x0.2.2) fun r4 =>
                    some r4)
                (some false))
            (
              N.cond (N.eq x0.1 4)
                (
                  N.cond (N.eq (N.len x0.2.1) 0)
                    (some (N.both (N.eq x0.2.2.1 0) (N.both (N.eq x0.2.2.2.1 0) (N.eq x0.2.2.2.2 0))))
                    (some false))
                (some false))))

noncomputable def impl_IsSite_1 (x0 : Version) : Option (Bool) :=
  N.bind (impl_IsAddress x0.1) fun r1 =>
    N.cond (N.not r1)
      (some true)
      (
        N.bind (impl_InRange x0.2.1 0 1000) fun r2 =>
          N.cond (N.not r2)
            (some true)
            (
              N.bind (impl_IsResource x0.2.2) fun r3 =>
                some (N.not r3)))

noncomputable def slices_IndexFunc_Version_impl_IsSite_1 (x0 : List Version) : Option (Int) :=
  loopF (fun (s1 : Int) =>
      N.cond (N.lt s1 (N.len x0))
        (
          N.ite (0 ≤ s1)
            (
              N.ite (s1 < N.len x0)
                (
                  N.bind (impl_IsSite_1 (N.rd x0 s1 ((0, 0, 0), 0, (0, [], (0, 0, 0))))) fun r1 =>
                    N.cond r1
                      (some (.inr s1))
                      (some (.inl (N.add .i64 s1 1))))
                none)
            none)
        (some (.inr (-1))))
    0

noncomputable def slices_ContainsFunc_Version_impl_IsSite_1 (x0 : List Version) : Option (Bool) :=
  N.bind (slices_IndexFunc_Version_impl_IsSite_1 x0) fun r1 =>
    some (N.ge r1 0)

noncomputable def impl_IsSite (x0 : List Version) : Option (Bool) :=
  N.cond (N.le (N.len x0) 12)
    (
      N.bind (slices_ContainsFunc_Version_impl_IsSite_1 x0) fun r1 =>
        some (N.not r1))
    (some false)

noncomputable def impl_IsVisit (x0 : Visit) : Option (Bool) :=
  N.bind (impl_IsSite x0.1) fun r1 =>
    N.cond r1
      (
        N.bind (impl_InRange x0.2.1 0 1000) fun r2 =>
          N.cond r2
            (
              N.bind (impl_InRange x0.2.2.1 0 9999) fun r3 =>
                N.cond r3
                  (
                    N.cond (N.le (N.len x0.2.2.2) 8)
                      (
                        N.bind (impl_allIn x0.2.2.2 0 999) fun r4 =>
                          some r4)
                      (some false))
                  (some false))
            (some false))
      (some false)

noncomputable def impl_IsDone (x0 : List Op) (x1 : State) : Option (Bool) :=
  some (N.ge x1.1 (N.len x0))

noncomputable def impl_IsState (x0 : State) : Option (Bool) :=
  N.bind (impl_InRange x0.1 0 19) fun r1 =>
    N.cond r1
      (
        N.cond (N.eq (N.len x0.2.1) 4)
          (
            N.cond (N.eq (N.len x0.2.2.1) 3)
              (
                N.cond (N.eq (N.len x0.2.2.2) 4)
                  (
                    N.bind (impl_allIn x0.2.1 0 999) fun r2 =>
                      N.cond r2
                        (
                          N.bind (impl_allIn x0.2.2.1 0 999) fun r3 =>
                            N.cond r3
                              (
                                N.bind (impl_allIn x0.2.2.2 0 999) fun r4 =>
                                  some r4)
                              (some false))
                        (some false))
                  (some false))
              (some false))
          (some false))
      (some false)

noncomputable def impl_canStep (x0 : List Op) (x1 : State) : Option (Bool) :=
  N.bind (impl_IsScript x0) fun r1 =>
    N.cond r1
      (
        N.bind (impl_IsState x1) fun r2 =>
          N.cond r2
            (some (N.lt x1.1 (N.len x0)))
            (some false))
      (some false)

noncomputable def impl_Asks (x0 : Int) : Option (Bool) :=
  N.bind (impl_InRange x0 1 4) fun r1 =>
    some r1

noncomputable def impl_WantOf (x0 : List Op) (x1 : State) : Option (Want) :=
  N.bind (impl_canStep x0 x1) fun r1 =>
    N.cond (N.not r1)
      (some (0, (0, 0, 0)))
      (
        N.ite (0 ≤ x1.1)
          (
            N.ite (x1.1 < N.len x0)
              (
                N.bind (impl_Asks ((N.rd x0 x1.1 (0, 0, 0, 0)).1)) fun r2 =>
                  N.cond (N.not r2)
                    (some (0, (0, 0, 0)))
                    (
                      N.ite (0 ≤ x1.1)
                        (
                          N.ite (x1.1 < N.len x0)
                            (
                              N.cond (N.eq ((N.rd x0 x1.1 (0, 0, 0, 0)).1) 1)
                                (
                                  N.ite (0 ≤ (N.rd x0 x1.1 (0, 0, 0, 0)).2.1)
                                    (
                                      N.ite ((N.rd x0 x1.1 (0, 0, 0, 0)).2.1 < N.len x1.2.1)
                                        (some ((N.rd x0 x1.1 (0, 0, 0, 0)).1, ((N.rd x0 x1.1 (0, 0, 0, 0)).2.2.1, (N.rd x0 x1.1 (0, 0, 0, 0)).2.2.2, N.rem (N.rd x1.2.1 ((N.rd x0 x1.1 (0, 0, 0, 0)).2.1) 0) 100)))
                                        none)
                                    none)
                                (some ((N.rd x0 x1.1 (0, 0, 0, 0)).1, (0, 0, 0))))
                            none)
                        none))
              none)
          none)

noncomputable def slices_Clone_int (x0 : List Int) : Option (List Int) :=
  N.nilc (N.isE x0)
    (some [])
    (
      N.ite (N.fits [] x0 8)
        (some (N.app [] x0))
        none)

noncomputable def impl_copyResource (x0 : Resource) : Option (Int × (List Int) × Int × Int × Int) :=
  N.bind (slices_Clone_int x0.2.1) fun r1 =>
    some (x0.1, r1, x0.2.2.1, x0.2.2.2.1, x0.2.2.2.2)

noncomputable def impl_AnswerAt (x0 : List Version) (x1 : Address) (x2 : Int) : Option (Int × (List Int) × Int × Int × Int) :=
  loopF (fun (s1 : Int × (Int × List Int × Int × Int × Int)) =>
      N.cond (N.ge s1.1 0)
        (
          N.ite (0 ≤ s1.1)
            (
              N.ite (s1.1 < N.len x0)
                (
                  N.cond (N.both (N.eq (((N.rd x0 s1.1 ((0, 0, 0), 0, (0, [], (0, 0, 0)))).1).1) x1.1) (N.both (N.eq (((N.rd x0 s1.1 ((0, 0, 0), 0, (0, [], (0, 0, 0)))).1).2.1) x1.2.1) (N.eq (((N.rd x0 s1.1 ((0, 0, 0), 0, (0, [], (0, 0, 0)))).1).2.2) x1.2.2)))
                    (
                      N.ite (0 ≤ s1.1)
                        (
                          N.ite (s1.1 < N.len x0)
                            (
                              N.cond (N.le ((N.rd x0 s1.1 ((0, 0, 0), 0, (0, [], (0, 0, 0)))).2.1) x2)
                                (
                                  N.ite (0 ≤ s1.1)
                                    (
                                      N.ite (s1.1 < N.len x0)
                                        (
                                          N.bind (impl_copyResource ((N.rd x0 s1.1 ((0, 0, 0), 0, (0, [], (0, 0, 0)))).2.2)) fun r1 =>
                                            some (.inr r1))
                                        none)
                                    none)
                                (some (.inl (N.sub .i64 s1.1 1, s1.2))))
                            none)
                        none)
                    (some (.inl (N.sub .i64 s1.1 1, s1.2))))
                none)
            none)
        (some (.inr (4, [], 0, 0, 0))))
    (N.sub .i64 (N.len x0) 1, (0, [], 0, 0, 0))

noncomputable def slices_Index_Address (x0 : List Address) (x1 : Address) : Option (Int) :=
  loopF (fun (s1 : Int) =>
      N.cond (N.lt s1 (N.len x0))
        (
          N.ite (0 ≤ s1)
            (
              N.ite (s1 < N.len x0)
                (
                  N.cond (N.both (N.eq x1.1 ((N.rd x0 s1 (0, 0, 0)).1)) (N.both (N.eq x1.2.1 ((N.rd x0 s1 (0, 0, 0)).2.1)) (N.eq x1.2.2 ((N.rd x0 s1 (0, 0, 0)).2.2))))
                    (some (.inr s1))
                    (some (.inl (N.add .i64 s1 1))))
                none)
            none)
        (some (.inr (-1))))
    0

noncomputable def slices_Contains_Address (x0 : List Address) (x1 : Address) : Option (Bool) :=
  N.bind (slices_Index_Address x0 x1) fun r1 =>
    some (N.ge r1 0)

noncomputable def impl_FollowAt (x0 : List Version) (x1 : Address) (x2 : Int) : Option (Int × (List Int) × Int × Int × Int × (List Address)) :=
  N.bind (impl_AnswerAt x0 x1 x2) fun r1 =>
    loopF (fun (s1 : List Address × (Int × List Int × Int × Int × Int)) =>
        N.cond (N.eq s1.2.1 3)
          (
            N.cond (N.le (N.len s1.1) 4)
              (
                N.bind (slices_Contains_Address s1.1 (s1.2.2.2.1, s1.2.2.2.2.1, s1.2.2.2.2.2)) fun r2 =>
                  N.cond (N.not r2)
                    (
                      N.ite (N.fits s1.1 [(s1.2.2.2.1, s1.2.2.2.2.1, s1.2.2.2.2.2)] 24)
                        (
                          N.bind (impl_AnswerAt x0 (s1.2.2.2.1, s1.2.2.2.2.1, s1.2.2.2.2.2) x2) fun r3 =>
                            some (.inl (N.app s1.1 [(s1.2.2.2.1, s1.2.2.2.2.1, s1.2.2.2.2.2)], r3)))
                        none)
                    (some (.inr (s1.2.1, s1.2.2.1, s1.2.2.2.1, s1.2.2.2.2.1, s1.2.2.2.2.2, s1.1))))
              (some (.inr (s1.2.1, s1.2.2.1, s1.2.2.2.1, s1.2.2.2.2.1, s1.2.2.2.2.2, s1.1))))
          (some (.inr (s1.2.1, s1.2.2.1, s1.2.2.2.1, s1.2.2.2.2.1, s1.2.2.2.2.2, s1.1))))
      ([x1], r1)

noncomputable def impl_hasBody (x0 : Int) : Option (Bool) :=
  N.cond (N.eq x0 1)
    (some true)
    (some (N.eq x0 2))

noncomputable def impl_ValueOfResource (x0 : Resource) : Option (Int) :=
  N.bind (impl_IsResource x0) fun r1 =>
    N.cond (N.not r1)
      (some 0)
      (
        N.bind (impl_hasBody x0.1) fun r2 =>
          N.cond (N.not r2)
            (some 0)
            (
              loopF (fun (s1 : Int × Int) =>
                  N.cond (N.lt s1.2 (N.len x0.2.1))
                    (
                      N.ite (0 ≤ s1.2)
                        (
                          N.ite (s1.2 < N.len x0.2.1)
                            (some (.inl (N.add .i64 s1.1 (N.rd x0.2.1 s1.2 0), N.add .i64 s1.2 1)))
                            none)
                        none)
                    (
                      Option.map Sum.inr
                        (
                          N.cond (N.lt (N.rem s1.1 1000) 999)
                            (some (N.add .i64 (N.rem s1.1 1000) 1))
                            (some (N.rem s1.1 1000)))))
                (0, 0)))

noncomputable def impl_Mod (x0 : Int) (x1 : Int) : Option (Int) :=
  N.bind (impl_InRange x1 1 1000000000000) fun r1 =>
    N.cond (N.not r1)
      (some 0)
      (
        N.ite (x1 = 0)
          none
          (
            N.ite (x1 = 0)
              none
              (some (N.rem (N.add .i64 (N.rem x0 x1) x1) x1))))

noncomputable def impl_Hash (x0 : List Int) : Option (Int) :=
  loopF (fun (s1 : Int × Int) =>
      N.cond (N.lt s1.2 (N.len x0))
        (
          N.ite (0 ≤ s1.2)
            (
              N.ite (s1.2 < N.len x0)
                (
                  N.bind (impl_Mod (N.rd x0 s1.2 0) 2147483647) fun r1 =>
                    some (.inl (N.rem (N.add .i64 (N.add .i64 (N.mul .i64 s1.1 1000003) r1) 13) 2147483647, N.add .i64 s1.2 1)))
                none)
            none)
        (some (.inr s1.1)))
    (11, 0)

noncomputable def impl_LiveValue (x0 : Visit) (x1 : Want) (x2 : Int) : Option (Int) :=
  N.bind (impl_IsVisit x0) fun r1 =>
    N.cond (N.not r1)
      (some 0)
      (
        N.bind (impl_InRange x2 0 100) fun r2 =>
          N.cond (N.not r2)
            (some 0)
            (
              N.cond (N.eq x1.1 1)
                (
                  N.bind (impl_FollowAt x0.1 x1.2 (N.add .i64 x0.2.1 x2)) fun r3 =>
                    N.bind (impl_ValueOfResource (r3.1, r3.2.1, (r3.2.2.1, r3.2.2.2.1, r3.2.2.2.2.1))) fun r4 =>
                      some r4)
                (
                  N.cond (N.eq x1.1 2)
                    (some (N.min 999 (N.add .i64 x0.2.1 x2)))
                    (
                      N.cond (N.eq x1.1 3)
                        (
                          N.bind (impl_Hash [x0.2.2.1, x2]) fun r5 =>
                            N.bind (impl_Mod r5 1000) fun r6 =>
                              some r6)
                        (
                          N.cond (N.eq x1.1 4)
                            (
                              N.cond (N.gt (N.len x0.2.2.2) 0)
                                (
                                  N.ite (N.len x0.2.2.2 = 0)
                                    none
                                    (
                                      N.ite (0 ≤ N.rem x2 (N.len x0.2.2.2))
                                        (
                                          N.ite (N.rem x2 (N.len x0.2.2.2) < N.len x0.2.2.2)
                                            (some (N.rd x0.2.2.2 (N.rem x2 (N.len x0.2.2.2)) 0))
                                            none)
                                        none))
                                (some 0))
                            (some 0))))))

noncomputable def impl_copyState (x0 : State) : Option (Int × (List Int) × (List Int) × (List Int)) :=
  N.bind (slices_Clone_int x0.2.1) fun r1 =>
    N.bind (slices_Clone_int x0.2.2.1) fun r2 =>
      N.bind (slices_Clone_int x0.2.2.2) fun r3 =>
        some (x0.1, r1, r2, r3)

noncomputable def impl_StepState (x0 : List Op) (x1 : State) (x2 : Int) : Option (Int × (List Int) × (List Int) × (List Int)) :=
  N.bind (impl_copyState x1) fun r1 =>
    N.bind (impl_canStep x0 x1) fun r2 =>
      N.cond (N.not r2)
        (some r1)
        (
          N.ite (0 ≤ x1.1)
            (
              N.ite (x1.1 < N.len x0)
                (
                  N.cond (N.eq ((N.rd x0 x1.1 (0, 0, 0, 0)).1) 5)
                    (
                      N.ite (0 ≤ (N.rd x0 x1.1 (0, 0, 0, 0)).2.2.1)
                        (
                          N.ite ((N.rd x0 x1.1 (0, 0, 0, 0)).2.2.1 < N.len x1.2.1)
                            (
                              N.ite (0 ≤ (N.rd x0 x1.1 (0, 0, 0, 0)).2.2.2)
                                (
                                  N.ite ((N.rd x0 x1.1 (0, 0, 0, 0)).2.2.2 < N.len x1.2.1)
                                    (
                                      N.ite (0 ≤ (N.rd x0 x1.1 (0, 0, 0, 0)).2.1)
                                        (
                                          N.ite ((N.rd x0 x1.1 (0, 0, 0, 0)).2.1 < N.len r1.2.1)
                                            (
                                              N.let_ (N.set r1.2.1 ((N.rd x0 x1.1 (0, 0, 0, 0)).2.1) (N.rem (N.add .i64 (N.rd x1.2.1 ((N.rd x0 x1.1 (0, 0, 0, 0)).2.2.1) 0) (N.rd x1.2.1 ((N.rd x0 x1.1 (0, 0, 0, 0)).2.2.2) 0)) 1000)) fun v1 =>
                                                some (N.add .i64 r1.1 1, v1, r1.2.2.1, r1.2.2.2))
                                            none)
                                        none)
                                    none)
                                none)
                            none)
                        none)
                    (
                      N.cond (N.eq ((N.rd x0 x1.1 (0, 0, 0, 0)).1) 6)
                        (
                          N.ite (0 ≤ (N.rd x0 x1.1 (0, 0, 0, 0)).2.1)
                            (
                              N.ite ((N.rd x0 x1.1 (0, 0, 0, 0)).2.1 < N.len x1.2.1)
                                (
                                  N.ite (0 ≤ (N.rd x0 x1.1 (0, 0, 0, 0)).2.2.1)
                                    (
                                      N.ite ((N.rd x0 x1.1 (0, 0, 0, 0)).2.2.1 < N.len r1.2.2.2)
                                        (
                                          N.let_ (N.set r1.2.2.2 ((N.rd x0 x1.1 (0, 0, 0, 0)).2.2.1) (N.rd x1.2.1 ((N.rd x0 x1.1 (0, 0, 0, 0)).2.1) 0)) fun v2 =>
                                            some (N.add .i64 r1.1 1, r1.2.1, r1.2.2.1, v2))
                                        none)
                                    none)
                                none)
                            none)
                        (
                          N.cond (N.eq ((N.rd x0 x1.1 (0, 0, 0, 0)).1) 7)
                            (
                              N.ite (0 ≤ (N.rd x0 x1.1 (0, 0, 0, 0)).2.1)
                                (
                                  N.ite ((N.rd x0 x1.1 (0, 0, 0, 0)).2.1 < N.len x1.2.1)
                                    (
                                      N.cond (N.eq (N.rem (N.rd x1.2.1 ((N.rd x0 x1.1 (0, 0, 0, 0)).2.1) 0) 2) 0)
                                        (some (N.add .i64 (N.add .i64 r1.1 1) ((N.rd x0 x1.1 (0, 0, 0, 0)).2.2.1), r1.2.1, r1.2.2.1, r1.2.2.2))
                                        (some (N.add .i64 r1.1 1, r1.2.1, r1.2.2.1, r1.2.2.2)))
                                    none)
                                none)
                            (
                              N.cond (N.eq ((N.rd x0 x1.1 (0, 0, 0, 0)).1) 8)
                                (
                                  N.ite (0 ≤ (N.rd x0 x1.1 (0, 0, 0, 0)).2.2.1)
                                    (
                                      N.ite ((N.rd x0 x1.1 (0, 0, 0, 0)).2.2.1 < N.len x1.2.2.1)
                                        (
                                          N.ite (0 ≤ (N.rd x0 x1.1 (0, 0, 0, 0)).2.1)
                                            (
                                              N.ite ((N.rd x0 x1.1 (0, 0, 0, 0)).2.1 < N.len r1.2.1)
                                                (
                                                  N.let_ (N.set r1.2.1 ((N.rd x0 x1.1 (0, 0, 0, 0)).2.1) (N.rd x1.2.2.1 ((N.rd x0 x1.1 (0, 0, 0, 0)).2.2.1) 0)) fun v3 =>
                                                    some (N.add .i64 r1.1 1, v3, r1.2.2.1, r1.2.2.2))
                                                none)
                                            none)
                                        none)
                                    none)
                                (
                                  N.cond (N.eq ((N.rd x0 x1.1 (0, 0, 0, 0)).1) 9)
                                    (
                                      N.ite (0 ≤ (N.rd x0 x1.1 (0, 0, 0, 0)).2.1)
                                        (
                                          N.ite ((N.rd x0 x1.1 (0, 0, 0, 0)).2.1 < N.len x1.2.1)
                                            (
                                              N.ite (0 ≤ (N.rd x0 x1.1 (0, 0, 0, 0)).2.2.1)
                                                (
                                                  N.ite ((N.rd x0 x1.1 (0, 0, 0, 0)).2.2.1 < N.len r1.2.2.1)
                                                    (
                                                      N.let_ (N.set r1.2.2.1 ((N.rd x0 x1.1 (0, 0, 0, 0)).2.2.1) (N.rd x1.2.1 ((N.rd x0 x1.1 (0, 0, 0, 0)).2.1) 0)) fun v4 =>
                                                        some (N.add .i64 r1.1 1, r1.2.1, v4, r1.2.2.2))
                                                    none)
                                                none)
                                            none)
                                        none)
                                    (
                                      N.ite (0 ≤ (N.rd x0 x1.1 (0, 0, 0, 0)).2.1)
                                        (
                                          N.ite ((N.rd x0 x1.1 (0, 0, 0, 0)).2.1 < N.len r1.2.1)
                                            (
                                              N.let_ (N.set r1.2.1 ((N.rd x0 x1.1 (0, 0, 0, 0)).2.1) (N.min (N.max x2 0) 999)) fun v5 =>
                                                some (N.add .i64 r1.1 1, v5, r1.2.2.1, r1.2.2.2))
                                            none)
                                        none))))))
                none)
            none)

noncomputable def impl_visited (x0 : List Op) (x1 : Visit) : Option ((List Entry) × (List State)) :=
  N.bind (impl_StartState) fun r1 =>
    N.bind (impl_IsScript x0) fun r2 =>
      N.cond (N.not r2)
        (some ([], [r1]))
        (
          N.bind (impl_IsVisit x1) fun r3 =>
            N.cond (N.not r3)
              (some ([], [r1]))
              (
                loopF (fun (s1 : List Entry × List State × (Int × List Int × List Int × List Int)) =>
                    N.bind (impl_IsDone x0 s1.2.2) fun r4 =>
                      N.cond (N.not r4)
                        (
                          N.bind (impl_WantOf x0 s1.2.2) fun r5 =>
                            N.cond (N.ne r5.1 0)
                              (
                                N.bind (impl_LiveValue x1 r5 (N.len s1.1)) fun r6 =>
                                  N.ite (N.fits s1.1 [(r5.1, r5.2, r6)] 40)
                                    (
                                      N.bind (impl_StepState x0 s1.2.2 r6) fun r7 =>
                                        N.ite (N.fits s1.2.1 [r7] 80)
                                          (some (.inl (N.app s1.1 [(r5.1, r5.2, r6)], N.app s1.2.1 [r7], r7)))
                                          none)
                                    none)
                              (
                                N.bind (impl_StepState x0 s1.2.2 0) fun r8 =>
                                  N.ite (N.fits s1.2.1 [r8] 80)
                                    (some (.inl (s1.1, N.app s1.2.1 [r8], r8)))
                                    none))
                        (some (.inr (s1.1, s1.2.1))))
                  ([], [r1], r1)))

noncomputable def impl_last (x0 : List State) : Option (Int × (List Int) × (List Int) × (List Int)) :=
  N.ite (0 ≤ N.sub .i64 (N.len x0) 1)
    (
      N.ite (N.sub .i64 (N.len x0) 1 < N.len x0)
        (
          N.bind (impl_copyState (N.rd x0 (N.sub .i64 (N.len x0) 1) (0, [], [], []))) fun r1 =>
            some r1)
        none)
    none

noncomputable def impl_RecordVisit (x0 : List Op) (x1 : Visit) : Option ((List Entry) × Int × (List Int) × (List Int) × (List Int)) :=
  N.bind (impl_visited x0 x1) fun r1 =>
    N.bind (impl_last r1.2) fun r2 =>
      some (r1.1, r2.1, r2.2.1, r2.2.2.1, r2.2.2.2)

noncomputable def spec_l1In (x0 : Int) (x1 : Int) (x2 : Int) : Option (Bool) :=
  N.cond (N.ge x0 x1)
    (some (N.le x0 x2))
    (some false)

noncomputable def spec_l10Ok (x0 : Op) : Option (Bool) :=
  N.bind (spec_l1In x0.2.1 0 3) fun r1 =>
    N.cond (N.not r1)
      (some false)
      (
        N.cond (N.eq x0.1 1)
          (
            N.bind (spec_l1In x0.2.2.1 1 9) fun r2 =>
              N.cond r2
                (
                  N.bind (spec_l1In x0.2.2.2 0 99) fun r3 =>
                    some r3)
                (some false))
          (
            N.cond (N.eq x0.1 2)
              (
                N.cond (N.eq x0.1 2)
                  (
                    N.cond (N.eq x0.2.2.1 0)
                      (some (N.eq x0.2.2.2 0))
                      (some false))
                  (
                    N.cond (N.eq x0.1 5)
                      (
                        N.bind (spec_l1In x0.2.2.1 0 3) fun r4 =>
                          N.cond r4
                            (
                              N.bind (spec_l1In x0.2.2.2 0 3) fun r5 =>
                                some r5)
                            (some false))
                      (
                        N.cond (N.eq x0.1 6)
                          (
                            N.bind (spec_l1In x0.2.2.1 0 3) fun r6 =>
                              N.cond r6
                                (some (N.eq x0.2.2.2 0))
                                (some false))
                          (
                            N.cond (N.eq x0.1 7)
                              (
                                N.bind (spec_l1In x0.2.2.1 1 3) fun r7 =>
                                  N.cond r7
                                    (some (N.eq x0.2.2.2 0))
                                    (some false))
                              (
                                N.cond (N.eq x0.1 8)
                                  (
                                    N.cond (N.eq x0.1 8)
                                      (
                                        N.bind (spec_l1In x0.2.2.1 0 2) fun r8 =>
                                          N.cond r8
                                            (some (N.eq x0.2.2.2 0))
                                            (some false))
                                      (some false))
                                  (
                                    N.cond (N.eq x0.1 9)
                                      (
                                        N.bind (spec_l1In x0.2.2.1 0 2) fun r9 =>
                                          N.cond r9
                                            (some (N.eq x0.2.2.2 0))
                                            (some false))
                                      (some false)))))))
              (
                N.cond (N.eq x0.1 3)
                  (
                    N.cond (N.eq x0.1 3)
                      (
                        N.cond (N.eq x0.2.2.1 0)
                          (some (N.eq x0.2.2.2 0))
                          (some false))
                      (
                        N.cond (N.eq x0.1 5)
                          (
                            N.bind (spec_l1In x0.2.2.1 0 3) fun r10 =>
                              N.cond r10
                                (
                                  N.bind (spec_l1In x0.2.2.2 0 3) fun r11 =>
                                    some r11)
                                (some false))
                          (
                            N.cond (N.eq x0.1 6)
                              (
                                N.bind (spec_l1In x0.2.2.1 0 3) fun r12 =>
                                  N.cond r12
                                    (some (N.eq x0.2.2.2 0))
                                    (some false))
                              (
                                N.cond (N.eq x0.1 7)
                                  (
                                    N.bind (spec_l1In x0.2.2.1 1 3) fun r13 =>
                                      N.cond r13
                                        (some (N.eq x0.2.2.2 0))
                                        (some false))
                                  (
                                    N.cond (N.eq x0.1 8)
                                      (
                                        N.cond (N.eq x0.1 8)
                                          (
                                            N.bind (spec_l1In x0.2.2.1 0 2) fun r14 =>
                                              N.cond r14
                                                (some (N.eq x0.2.2.2 0))
                                                (some false))
                                          (some false))
                                      (
                                        N.cond (N.eq x0.1 9)
                                          (
                                            N.bind (spec_l1In x0.2.2.1 0 2) fun r15 =>
                                              N.cond r15
                                                (some (N.eq x0.2.2.2 0))
                                                (some false))
                                          (some false)))))))
                  (
                    N.cond (N.eq x0.1 4)
                      (
                        N.cond (N.eq x0.2.2.1 0)
                          (some (N.eq x0.2.2.2 0))
                          (some false))
                      (
                        N.cond (N.eq x0.1 5)
                          (
                            N.bind (spec_l1In x0.2.2.1 0 3) fun r16 =>
                              N.cond r16
                                (
                                  N.bind (spec_l1In x0.2.2.2 0 3) fun r17 =>
                                    some r17)
                                (some false))
                          (
                            N.cond (N.eq x0.1 6)
                              (
                                N.bind (spec_l1In x0.2.2.1 0 3) fun r18 =>
                                  N.cond r18
                                    (some (N.eq x0.2.2.2 0))
                                    (some false))
                              (
                                N.cond (N.eq x0.1 7)
                                  (
                                    N.bind (spec_l1In x0.2.2.1 1 3) fun r19 =>
                                      N.cond r19
                                        (some (N.eq x0.2.2.2 0))
                                        (some false))
                                  (
                                    N.cond (N.eq x0.1 8)
                                      (
                                        N.cond (N.eq x0.1 8)
                                          (
                                            N.bind (spec_l1In x0.2.2.1 0 2) fun r20 =>
                                              N.cond r20
                                                (some (N.eq x0.2.2.2 0))
                                                (some false))
                                          (some false))
                                      (
                                        N.cond (N.eq x0.1 9)
                                          (
                                            N.bind (spec_l1In x0.2.2.1 0 2) fun r21 =>
                                              N.cond r21
                                                (some (N.eq x0.2.2.2 0))
                                                (some false))
                                          (some false))))))))))

noncomputable def spec_IsScript (x0 : List Op) : Option (Bool) :=
  loopF (fun (s1 : Int) =>
      N.cond (N.lt s1 (N.len x0))
        (
          N.ite (0 ≤ s1)
            (
              N.ite (s1 < N.len x0)
                (
                  N.bind (spec_l10Ok (N.rd x0 s1 (0, 0, 0, 0))) fun r1 =>
                    N.cond (N.not r1)
                      (some (.inr false))
                      (some (.inl (N.add .i64 s1 1))))
                none)
            none)
        (some (.inr (N.le (N.len x0) 16))))
    0

noncomputable def impl_ToOld (x0 : List Entry) : Option (List (List Int)) :=
  loopF (fun (s1 : List (List Int) × Int) =>
      N.cond (N.lt s1.2 (N.len x0))
        (
          N.ite (0 ≤ s1.2)
            (
              N.ite (s1.2 < N.len x0)
                (
                  N.ite (N.fits s1.1 [[(N.rd x0 s1.2 (0, (0, 0, 0), 0)).1, (N.rd x0 s1.2 (0, (0, 0, 0), 0)).2.2]] 24)
                    (some (.inl (N.app s1.1 [[(N.rd x0 s1.2 (0, (0, 0, 0), 0)).1, (N.rd x0 s1.2 (0, (0, 0, 0), 0)).2.2]], N.add .i64 s1.2 1)))
                    none)
                none)
            none)
        (some (.inr s1.1)))
    ([], 0)

noncomputable def impl_AreEntries_1 (x0 : Entry) : Option (Bool) :=
  N.cond (N.eq x0.1 1)
    (
      N.bind (impl_IsAddress x0.2.1) fun r1 =>
        N.cond (N.not r1)
          (some true)
          (
            N.bind (impl_InRange x0.2.2 0 999) fun r2 =>
              some (N.not r2)))
    (
      N.bind (impl_Asks x0.1) fun r3 =>
        N.cond (N.not r3)
          (some true)
          (
            N.cond (N.not (N.both (N.eq x0.2.1.1 0) (N.both (N.eq x0.2.1.2.1 0) (N.eq x0.2.1.2.2 0))))
              (some true)
              (
                N.bind (impl_InRange x0.2.2 0 999) fun r4 =>
                  some (N.not r4))))

noncomputable def slices_IndexFunc_Entry_impl_AreEntries_1 (x0 : List Entry) : Option (Int) :=
  loopF (fun (s1 : Int) =>
      N.cond (N.lt s1 (N.len x0))
        (
          N.ite (0 ≤ s1)
            (
              N.ite (s1 < N.len x0)
                (
                  N.bind (impl_AreEntries_1 (N.rd x0 s1 (0, (0, 0, 0), 0))) fun r1 =>
                    N.cond r1
                      (some (.inr s1))
                      (some (.inl (N.add .i64 s1 1))))
                none)
            none)
        (some (.inr (-1))))
    0

noncomputable def slices_ContainsFunc_Entry_impl_AreEntries_1 (x0 : List Entry) : Option (Bool) :=
  N.bind (slices_IndexFunc_Entry_impl_AreEntries_1 x0) fun r1 =>
    some (N.ge r1 0)

noncomputable def impl_AreEntries (x0 : List Entry) : Option (Bool) :=
  N.cond (N.le (N.len x0) 16)
    (
      N.bind (slices_ContainsFunc_Entry_impl_AreEntries_1 x0) fun r1 =>
        some (N.not r1))
    (some false)

noncomputable def impl_Migrate (x0 : List Op) (x1 : List (List Int)) : Option ((List Entry) × Bool) :=
  N.bind (impl_IsScript x0) fun r1 =>
    N.cond (N.not r1)
      (some ([], false))
      (
        N.cond (N.gt (N.len x1) 16)
          (some ([], false))
          (
            loopF (fun (s1 : Int) =>
                N.cond (N.lt s1 (N.len x1))
                  (
                    N.ite (0 ≤ s1)
                      (
                        N.ite (s1 < N.len x1)
                          (
                            N.cond (N.ne (N.len (N.rd x1 s1 [])) 2)
                              (some (.inr ([], false)))
                              (some (.inl (N.add .i64 s1 1))))
                          none)
                      none)
                  (
                    Option.map Sum.inr
                      (
                        N.bind (impl_StartState) fun r2 =>
                          loopF (fun (s2 : List Entry × (Int × List Int × List Int × List Int)) =>
                              N.bind (impl_IsDone x0 s2.2) fun r3 =>
                                N.cond (N.not r3)
                                  (
                                    N.bind (impl_WantOf x0 s2.2) fun r4 =>
                                      N.cond (N.ne r4.1 0)
                                        (
                                          N.cond (N.eq (N.len s2.1) (N.len x1))
                                            (some (.inr ([], false)))
                                            (
                                              N.ite (0 ≤ N.len s2.1)
                                                (
                                                  N.ite (N.len s2.1 < N.len x1)
                                                    (
                                                      N.ite (0 < N.len (N.rd x1 (N.len s2.1) []))
                                                        (
                                                          N.cond (N.ne (N.rd (N.rd x1 (N.len s2.1) []) 0 0) r4.1)
                                                            (some (.inr ([], false)))
                                                            (
                                                              N.ite (0 ≤ N.len s2.1)
                                                                (
                                                                  N.ite (N.len s2.1 < N.len x1)
                                                                    (
                                                                      N.ite (1 < N.len (N.rd x1 (N.len s2.1) []))
                                                                        (
                                                                          N.ite (N.fits s2.1 [(r4.1, r4.2, N.rd (N.rd x1 (N.len s2.1) []) 1 0)] 40)
                                                                            (
                                                                              N.bind (impl_StepState x0 s2.2 (N.rd (N.rd x1 (N.len s2.1) []) 1 0)) fun r5 =>
                                                                                some (.inl (N.app s2.1 [(r4.1, r4.2, N.rd (N.rd x1 (N.len s2.1) []) 1 0)], r5)))
                                                                            none)
                                                                        none)
                                                                    none)
                                                                none))
                                                        none)
                                                    none)
                                                none))
                                        (
                                          N.bind (impl_StepState x0 s2.2 0) fun r6 =>
                                            some (.inl (s2.1, r6))))
                                  (
                                    Option.map Sum.inr
                                      (
                                        N.cond (N.lt (N.len s2.1) (N.len x1))
                                          (some ([], false))
                                          (
                                            N.bind (impl_AreEntries s2.1) fun r7 =>
                                              N.cond (N.not r7)
                                                (some ([], false))
                                                (some (s2.1, true))))))
                            ([], r2))))
              0))

noncomputable def slices_Equal_Entry (x0 : List Entry) (x1 : List Entry) : Option (Bool) :=
  N.cond (N.ne (N.len x0) (N.len x1))
    (some false)
    (
      loopF (fun (s1 : Int) =>
          N.cond (N.lt s1 (N.len x0))
            (
              N.ite (0 ≤ s1)
                (
                  N.ite (s1 < N.len x0)
                    (
                      N.ite (0 ≤ s1)
                        (
                          N.ite (s1 < N.len x1)
                            (
                              N.cond (N.not (N.both (N.eq ((N.rd x0 s1 (0, (0, 0, 0), 0)).1) ((N.rd x1 s1 (0, (0, 0, 0), 0)).1)) (N.both (N.eq (((N.rd x0 s1 (0, (0, 0, 0), 0)).2.1).1) (((N.rd x1 s1 (0, (0, 0, 0), 0)).2.1).1)) (N.both (N.eq (((N.rd x0 s1 (0, (0, 0, 0), 0)).2.1).2.1) (((N.rd x1 s1 (0, (0, 0, 0), 0)).2.1).2.1)) (N.both (N.eq (((N.rd x0 s1 (0, (0, 0, 0), 0)).2.1).2.2) (((N.rd x1 s1 (0, (0, 0, 0), 0)).2.1).2.2)) (N.eq ((N.rd x0 s1 (0, (0, 0, 0), 0)).2.2) ((N.rd x1 s1 (0, (0, 0, 0), 0)).2.2)))))))
                                (some (.inr false))
                                (some (.inl (N.add .i64 s1 1))))
                            none)
                        none)
                    none)
                none)
            (some (.inr true)))
        0)

noncomputable def impl_EqualEntries (x0 : List Entry) (x1 : List Entry) : Option (Bool) :=
  N.bind (slices_Equal_Entry x0 x1) fun r1 =>
    some r1

noncomputable def impl_IsEquivalent (x0 : List Op) (x1 : List (List Int)) (x2 : List Entry) : Option (Bool) :=
  N.bind (impl_Migrate x0 x1) fun r1 =>
    N.cond r1.2
      (
        N.bind (impl_EqualEntries r1.1 x2) fun r2 =>
          some r2)
      (some false)

noncomputable def spec_l11Zeros (x0 : Int) : Option (List Int) :=
  loopF (fun (s1 : List Int × Int) =>
      N.cond (N.lt s1.2 x0)
        (
          N.ite (N.fits s1.1 [0] 8)
            (some (.inl (N.app s1.1 [0], N.add .i64 s1.2 1)))
            none)
        (some (.inr s1.1)))
    ([], 0)

noncomputable def spec_StartState : Option (Int × (List Int) × (List Int) × (List Int)) :=
  N.bind (spec_l11Zeros 4) fun r1 =>
    N.bind (spec_l11Zeros 3) fun r2 =>
      N.bind (spec_l11Zeros 4) fun r3 =>
        some (0, r1, r2, r3)

noncomputable def spec_IsAddress (x0 : Address) : Option (Bool) :=
  N.bind (spec_l1In x0.1 1 9) fun r1 =>
    N.cond r1
      (
        N.bind (spec_l1In x0.2.1 0 99) fun r2 =>
          N.cond r2
            (
              N.bind (spec_l1In x0.2.2 0 99) fun r3 =>
                some r3)
            (some false))
      (some false)

noncomputable def spec_l5Bytes (x0 : List Int) : Option (Bool) :=
  loopF (fun (s1 : Int) =>
      N.cond (N.lt s1 (N.len x0))
        (
          N.ite (0 ≤ s1)
            (
              N.ite (s1 < N.len x0)
                (
                  N.bind (spec_l1In (N.rd x0 s1 0) 0 255) fun r1 =>
                    N.cond (N.not r1)
                      (some (.inr false))
                      (some (.inl (N.add .i64 s1 1))))
                none)
            none)
        (some (.inr true)))
    0

noncomputable def spec_IsResource (x0 : Resource) : Option (Bool) :=
  N.bind (spec_l1In x0.1 1 4) fun r1 =>
    N.cond (N.not r1)
      (some false)
      (
        N.bind (spec_l5Bytes x0.2.1) fun r2 =>
          N.cond (N.not r2)
            (some false)
            (
              N.cond (N.gt (N.len x0.2.1) 6)
                (some false)
                (
                  N.cond (N.eq x0.1 3)
                    (
                      N.bind (spec_IsAddress x0.2.2) fun r3 =>
                        N.cond r3
                          (some (N.eq (N.len x0.2.1) 0))
                          (some false))
                    (
                      N.cond (N.both (N.eq x0.2.2.1 0) (N.both (N.eq x0.2.2.2.1 0) (N.eq x0.2.2.2.2 0)))
                        (
                          N.cond (N.ne x0.1 4)
                            (some true)
                            (some (N.eq (N.len x0.2.1) 0)))
                        (some false)))))

noncomputable def spec_IsSite (x0 : List Version) : Option (Bool) :=
  loopF (fun (s1 : Int) =>
      N.cond (N.lt s1 (N.len x0))
        (
          N.ite (0 ≤ s1)
            (
              N.ite (s1 < N.len x0)
                (
                  N.bind (spec_IsAddress ((N.rd x0 s1 ((0, 0, 0), 0, (0, [], (0, 0, 0)))).1)) fun r1 =>
                    N.cond (N.not r1)
                      (some (.inr false))
                      (
                        N.ite (0 ≤ s1)
                          (
                            N.ite (s1 < N.len x0)
                              (
                                N.bind (spec_l1In ((N.rd x0 s1 ((0, 0, 0), 0, (0, [], (0, 0, 0)))).2.1) 0 1000) fun r2 =>
                                  N.cond (N.not r2)
                                    (some (.inr false))
                                    (
                                      N.ite (0 ≤ s1)
                                        (
                                          N.ite (s1 < N.len x0)
                                            (
                                              N.bind (spec_IsResource ((N.rd x0 s1 ((0, 0, 0), 0, (0, [], (0, 0, 0)))).2.2)) fun r3 =>
                                                N.cond (N.not r3)
                                                  (some (.inr false))
                                                  (some (.inl (N.add .i64 s1 1))))
                                            none)
                                        none))
                              none)
                          none))
                none)
            none)
        (some (.inr (N.le (N.len x0) 12))))
    0

noncomputable def spec_l11All (x0 : List Int) (x1 : Int) : Option (Bool) :=
  loopF (fun (s1 : Int) =>
      N.cond (N.lt s1 (N.len x0))
        (
          N.ite (0 ≤ s1)
            (
              N.ite (s1 < N.len x0)
                (
                  N.bind (spec_l1In (N.rd x0 s1 0) 0 999) fun r1 =>
                    N.cond (N.not r1)
                      (some (.inr false))
                      (some (.inl (N.add .i64 s1 1))))
                none)
            none)
        (some (.inr (N.eq (N.len x0) x1))))
    0

noncomputable def spec_IsVisit (x0 : Visit) : Option (Bool) :=
  N.bind (spec_IsSite x0.1) fun r1 =>
    N.cond r1
      (
        N.bind (spec_l1In x0.2.1 0 1000) fun r2 =>
          N.cond r2
            (
              N.bind (spec_l1In x0.2.2.1 0 9999) fun r3 =>
                N.cond r3
                  (
                    N.cond (N.le (N.len x0.2.2.2) 8)
                      (
                        N.bind (spec_l11All x0.2.2.2 (N.len x0.2.2.2)) fun r4 =>
                          some r4)
                      (some false))
                  (some false))
            (some false))
      (some false)

noncomputable def spec_IsDone (x0 : List Op) (x1 : State) : Option (Bool) :=
  some (N.ge x1.1 (N.len x0))

noncomputable def spec_IsState (x0 : State) : Option (Bool) :=
  N.bind (spec_l1In x0.1 0 19) fun r1 =>
    N.cond r1
      (
        N.bind (spec_l11All x0.2.1 4) fun r2 =>
          N.cond r2
            (
              N.bind (spec_l11All x0.2.2.1 3) fun r3 =>
                N.cond r3
                  (
                    N.bind (spec_l11All x0.2.2.2 4) fun r4 =>
                      some r4)
                  (some false))
            (some false))
      (some false)

noncomputable def spec_l11Can (x0 : List Op) (x1 : State) : Option (Bool) :=
  N.bind (spec_IsScript x0) fun r1 =>
    N.cond r1
      (
        N.bind (spec_IsState x1) fun r2 =>
          N.cond r2
            (some (N.lt x1.1 (N.len x0)))
            (some false))
      (some false)

noncomputable def spec_Asks (x0 : Int) : Option (Bool) :=
  N.bind (spec_l1In x0 1 4) fun r1 =>
    some r1

noncomputable def spec_WantOf (x0 : List Op) (x1 : State) : Option (Want) :=
  N.bind (spec_l11Can x0 x1) fun r1 =>
    N.cond (N.not r1)
      (some (0, (0, 0, 0)))
      (
        N.ite (0 ≤ x1.1)
          (
            N.ite (x1.1 < N.len x0)
              (
                N.bind (spec_Asks ((N.rd x0 x1.1 (0, 0, 0, 0)).1)) fun r2 =>
                  N.cond (N.not r2)
                    (some (0, (0, 0, 0)))
                    (
                      N.ite (0 ≤ x1.1)
                        (
                          N.ite (x1.1 < N.len x0)
                            (
                              N.cond (N.eq ((N.rd x0 x1.1 (0, 0, 0, 0)).1) 1)
                                (
                                  N.ite (0 ≤ (N.rd x0 x1.1 (0, 0, 0, 0)).2.1)
                                    (
                                      N.ite ((N.rd x0 x1.1 (0, 0, 0, 0)).2.1 < N.len x1.2.1)
                                        (some ((N.rd x0 x1.1 (0, 0, 0, 0)).1, ((N.rd x0 x1.1 (0, 0, 0, 0)).2.2.1, (N.rd x0 x1.1 (0, 0, 0, 0)).2.2.2, N.rem (N.rd x1.2.1 ((N.rd x0 x1.1 (0, 0, 0, 0)).2.1) 0) 100)))
                                        none)
                                    none)
                                (some ((N.rd x0 x1.1 (0, 0, 0, 0)).1, (0, 0, 0))))
                            none)
                        none))
              none)
          none)

noncomputable def spec_l5Copy (x0 : Resource) : Option (Int × (List Int) × Int × Int × Int) :=
  N.ite (N.fits [] x0.2.1 8)
    (some (x0.1, N.app [] x0.2.1, x0.2.2.1, x0.2.2.2.1, x0.2.2.2.2))
    none

noncomputable def spec_AnswerAt (x0 : List Version) (x1 : Address) (x2 : Int) : Option (Int × (List Int) × Int × Int × Int) :=
  loopF (fun (s1 : Int × (Int × List Int × Int × Int × Int)) =>
      N.cond (N.lt s1.1 (N.len x0))
        (
          N.ite (0 ≤ s1.1)
            (
              N.ite (s1.1 < N.len x0)
                (
                  N.cond (N.both (N.eq (((N.rd x0 s1.1 ((0, 0, 0), 0, (0, [], (0, 0, 0)))).1).1) x1.1) (N.both (N.eq (((N.rd x0 s1.1 ((0, 0, 0), 0, (0, [], (0, 0, 0)))).1).2.1) x1.2.1) (N.eq (((N.rd x0 s1.1 ((0, 0, 0), 0, (0, [], (0, 0, 0)))).1).2.2) x1.2.2)))
                    (
                      N.ite (0 ≤ s1.1)
                        (
                          N.ite (s1.1 < N.len x0)
                            (
                              N.cond (N.le ((N.rd x0 s1.1 ((0, 0, 0), 0, (0, [], (0, 0, 0)))).2.1) x2)
                                (
                                  N.ite (0 ≤ s1.1)
                                    (
                                      N.ite (s1.1 < N.len x0)
                                        (
                                          N.bind (spec_l5Copy ((N.rd x0 s1.1 ((0, 0, 0), 0, (0, [], (0, 0, 0)))).2.2)) fun r1 =>
                                            some (.inl (N.add .i64 s1.1 1, r1)))
                                        none)
                                    none)
                                (some (.inl (N.add .i64 s1.1 1, s1.2))))
                            none)
                        none)
                    (some (.inl (N.add .i64 s1.1 1, s1.2))))
                none)
            none)
        (some (.inr s1.2)))
    (0, (4, [], 0, 0, 0))

noncomputable def spec_l9Has (x0 : List Address) (x1 : Address) : Option (Bool) :=
  loopF (fun (s1 : Int) =>
      N.cond (N.lt s1 (N.len x0))
        (
          N.ite (0 ≤ s1)
            (
              N.ite (s1 < N.len x0)
                (
                  N.cond (N.both (N.eq ((N.rd x0 s1 (0, 0, 0)).1) x1.1) (N.both (N.eq ((N.rd x0 s1 (0, 0, 0)).2.1) x1.2.1) (N.eq ((N.rd x0 s1 (0, 0, 0)).2.2) x1.2.2)))
                    (some (.inr true))
                    (some (.inl (N.add .i64 s1 1))))
                none)
            none)
        (some (.inr false)))
    0

noncomputable def spec_FollowAt (x0 : List Version) (x1 : Address) (x2 : Int) : Option (Int × (List Int) × Int × Int × Int × (List Address)) :=
  N.bind (spec_AnswerAt x0 x1 x2) fun r1 =>
    loopF (fun (s1 : List Address × (Int × List Int × Int × Int × Int)) =>
        N.cond (N.eq s1.2.1 3)
          (
            N.cond (N.le (N.len s1.1) 4)
              (
                N.bind (spec_l9Has s1.1 (s1.2.2.2.1, s1.2.2.2.2.1, s1.2.2.2.2.2)) fun r2 =>
                  N.cond (N.not r2)
                    (
                      N.ite (N.fits s1.1 [(s1.2.2.2.1, s1.2.2.2.2.1, s1.2.2.2.2.2)] 24)
                        (
                          N.bind (spec_AnswerAt x0 (s1.2.2.2.1, s1.2.2.2.2.1, s1.2.2.2.2.2) x2) fun r3 =>
                            some (.inl (N.app s1.1 [(s1.2.2.2.1, s1.2.2.2.2.1, s1.2.2.2.2.2)], r3)))
                        none)
                    (some (.inr (s1.2.1, s1.2.2.1, s1.2.2.2.1, s1.2.2.2.2.1, s1.2.2.2.2.2, s1.1))))
              (some (.inr (s1.2.1, s1.2.2.1, s1.2.2.2.1, s1.2.2.2.2.1, s1.2.2.2.2.2, s1.1))))
          (some (.inr (s1.2.1, s1.2.2.1, s1.2.2.2.1, s1.2.2.2.2.1, s1.2.2.2.2.2, s1.1))))
      ([x1], r1)

noncomputable def spec_Min (x0 : Int) (x1 : Int) : Option (Int) :=
  N.cond (N.lt x1 x0)
    (some x1)
    (some x0)

noncomputable def spec_ValueOfResource (x0 : Resource) : Option (Int) :=
  N.bind (spec_IsResource x0) fun r1 =>
    N.cond (N.not r1)
      (some 0)
      (
        N.cond (N.gt x0.1 2)
          (some 0)
          (
            loopF (fun (s1 : Int × Int) =>
                N.cond (N.lt s1.2 (N.len x0.2.1))
                  (
                    N.ite (0 ≤ s1.2)
                      (
                        N.ite (s1.2 < N.len x0.2.1)
                          (some (.inl (N.rem (N.add .i64 s1.1 (N.rd x0.2.1 s1.2 0)) 1000, N.add .i64 s1.2 1)))
                          none)
                      none)
                  (
                    Option.map Sum.inr
                      (
                        N.bind (spec_Min 999 (N.add .i64 s1.1 1)) fun r2 =>
                          some r2)))
              (0, 0)))

noncomputable def spec_Mod (x0 : Int) (x1 : Int) : Option (Int) :=
  N.bind (spec_l1In x1 1 1000000000000) fun r1 =>
    N.cond (N.not r1)
      (some 0)
      (
        N.ite (x1 = 0)
          none
          (
            N.ite (x1 = 0)
              none
              (some (N.rem (N.add .i64 (N.rem x0 x1) x1) x1))))

noncomputable def spec_Hash (x0 : List Int) : Option (Int) :=
  loopF (fun (s1 : Int × Int) =>
      N.cond (N.lt s1.2 (N.len x0))
        (
          N.ite (0 ≤ s1.2)
            (
              N.ite (s1.2 < N.len x0)
                (
                  N.bind (spec_Mod (N.rd x0 s1.2 0) 2147483647) fun r1 =>
                    some (.inl (N.rem (N.add .i64 (N.add .i64 (N.mul .i64 s1.1 1000003) r1) 13) 2147483647, N.add .i64 s1.2 1)))
                none)
            none)
        (some (.inr s1.1)))
    (11, 0)

noncomputable def spec_LiveValue (x0 : Visit) (x1 : Want) (x2 : Int) : Option (Int) :=
  N.bind (spec_IsVisit x0) fun r1 =>
    N.cond (N.not r1)
      (some 0)
      (
        N.bind (spec_l1In x2 0 100) fun r2 =>
          N.cond (N.not r2)
            (some 0)
            (
              N.cond (N.eq x1.1 1)
                (
                  N.bind (spec_FollowAt x0.1 x1.2 (N.add .i64 x0.2.1 x2)) fun r3 =>
                    N.bind (spec_ValueOfResource (r3.1, r3.2.1, (r3.2.2.1, r3.2.2.2.1, r3.2.2.2.2.1))) fun r4 =>
                      some r4)
                (
                  N.cond (N.eq x1.1 2)
                    (
                      N.bind (spec_Min 999 (N.add .i64 x0.2.1 x2)) fun r5 =>
                        some r5)
                    (
                      N.cond (N.eq x1.1 3)
                        (
                          N.bind (spec_Hash [x0.2.2.1, x2]) fun r6 =>
                            N.bind (spec_Mod r6 1000) fun r7 =>
                              some r7)
                        (
                          N.cond (N.eq x1.1 4)
                            (
                              N.cond (N.gt (N.len x0.2.2.2) 0)
                                (
                                  N.ite (N.len x0.2.2.2 = 0)
                                    none
                                    (
                                      N.ite (0 ≤ N.rem x2 (N.len x0.2.2.2))
                                        (
                                          N.ite (N.rem x2 (N.len x0.2.2.2) < N.len x0.2.2.2)
                                            (some (N.rd x0.2.2.2 (N.rem x2 (N.len x0.2.2.2)) 0))
                                            none)
                                        none))
                                (some 0))
                            (some 0))))))

noncomputable def spec_l11Copy (x0 : State) : Option (Int × (List Int) × (List Int) × (List Int)) :=
  N.ite (N.fits [] x0.2.1 8)
    (
      N.ite (N.fits [] x0.2.2.1 8)
        (
          N.ite (N.fits [] x0.2.2.2 8)
            (some (x0.1, N.app [] x0.2.1, N.app [] x0.2.2.1, N.app [] x0.2.2.2))
            none)
        none)
    none

noncomputable def spec_Max (x0 : Int) (x1 : Int) : Option (Int) :=
  N.cond (N.gt x1 x0)
    (some x1)
    (some x0)

noncomputable def spec_StepState (x0 : List Op) (x1 : State) (x2 : Int) : Option (Int × (List Int) × (List Int) × (List Int)) :=
  N.bind (spec_l11Copy x1) fun r1 =>
    N.bind (spec_l11Can x0 x1) fun r2 =>
      N.cond (N.not r2)
        (some r1)
        (
          N.ite (0 ≤ x1.1)
            (
              N.ite (x1.1 < N.len x0)
                (
                  N.cond (N.eq ((N.rd x0 x1.1 (0, 0, 0, 0)).1) 5)
                    (
                      N.ite (0 ≤ (N.rd x0 x1.1 (0, 0, 0, 0)).2.2.1)
                        (
                          N.ite ((N.rd x0 x1.1 (0, 0, 0, 0)).2.2.1 < N.len x1.2.1)
                            (
                              N.ite (0 ≤ (N.rd x0 x1.1 (0, 0, 0, 0)).2.2.2)
                                (
                                  N.ite ((N.rd x0 x1.1 (0, 0, 0, 0)).2.2.2 < N.len x1.2.1)
                                    (
                                      N.ite (0 ≤ (N.rd x0 x1.1 (0, 0, 0, 0)).2.1)
                                        (
                                          N.ite ((N.rd x0 x1.1 (0, 0, 0, 0)).2.1 < N.len r1.2.1)
                                            (
                                              N.let_ (N.set r1.2.1 ((N.rd x0 x1.1 (0, 0, 0, 0)).2.1) (N.rem (N.add .i64 (N.rd x1.2.1 ((N.rd x0 x1.1 (0, 0, 0, 0)).2.2.1) 0) (N.rd x1.2.1 ((N.rd x0 x1.1 (0, 0, 0, 0)).2.2.2) 0)) 1000)) fun v1 =>
                                                some (N.add .i64 x1.1 1, v1, r1.2.2.1, r1.2.2.2))
                                            none)
                                        none)
                                    none)
                                none)
                            none)
                        none)
                    (
                      N.cond (N.eq ((N.rd x0 x1.1 (0, 0, 0, 0)).1) 6)
                        (
                          N.ite (0 ≤ (N.rd x0 x1.1 (0, 0, 0, 0)).2.1)
                            (
                              N.ite ((N.rd x0 x1.1 (0, 0, 0, 0)).2.1 < N.len x1.2.1)
                                (
                                  N.ite (0 ≤ (N.rd x0 x1.1 (0, 0, 0, 0)).2.2.1)
                                    (
                                      N.ite ((N.rd x0 x1.1 (0, 0, 0, 0)).2.2.1 < N.len r1.2.2.2)
                                        (
                                          N.let_ (N.set r1.2.2.2 ((N.rd x0 x1.1 (0, 0, 0, 0)).2.2.1) (N.rd x1.2.1 ((N.rd x0 x1.1 (0, 0, 0, 0)).2.1) 0)) fun v2 =>
                                            some (N.add .i64 x1.1 1, r1.2.1, r1.2.2.1, v2))
                                        none)
                                    none)
                                none)
                            none)
                        (
                          N.cond (N.eq ((N.rd x0 x1.1 (0, 0, 0, 0)).1) 7)
                            (
                              N.ite (0 ≤ (N.rd x0 x1.1 (0, 0, 0, 0)).2.1)
                                (
                                  N.ite ((N.rd x0 x1.1 (0, 0, 0, 0)).2.1 < N.len x1.2.1)
                                    (
                                      N.cond (N.eq (N.rem (N.rd x1.2.1 ((N.rd x0 x1.1 (0, 0, 0, 0)).2.1) 0) 2) 0)
                                        (some (N.add .i64 (N.add .i64 x1.1 1) ((N.rd x0 x1.1 (0, 0, 0, 0)).2.2.1), r1.2.1, r1.2.2.1, r1.2.2.2))
                                        (some (N.add .i64 x1.1 1, r1.2.1, r1.2.2.1, r1.2.2.2)))
                                    none)
                                none)
                            (
                              N.cond (N.eq ((N.rd x0 x1.1 (0, 0, 0, 0)).1) 8)
                                (
                                  N.ite (0 ≤ (N.rd x0 x1.1 (0, 0, 0, 0)).2.2.1)
                                    (
                                      N.ite ((N.rd x0 x1.1 (0, 0, 0, 0)).2.2.1 < N.len x1.2.2.1)
                                        (
                                          N.ite (0 ≤ (N.rd x0 x1.1 (0, 0, 0, 0)).2.1)
                                            (
                                              N.ite ((N.rd x0 x1.1 (0, 0, 0, 0)).2.1 < N.len r1.2.1)
                                                (
                                                  N.let_ (N.set r1.2.1 ((N.rd x0 x1.1 (0, 0, 0, 0)).2.1) (N.rd x1.2.2.1 ((N.rd x0 x1.1 (0, 0, 0, 0)).2.2.1) 0)) fun v3 =>
                                                    some (N.add .i64 x1.1 1, v3, r1.2.2.1, r1.2.2.2))
                                                none)
                                            none)
                                        none)
                                    none)
                                (
                                  N.cond (N.eq ((N.rd x0 x1.1 (0, 0, 0, 0)).1) 9)
                                    (
                                      N.ite (0 ≤ (N.rd x0 x1.1 (0, 0, 0, 0)).2.1)
                                        (
                                          N.ite ((N.rd x0 x1.1 (0, 0, 0, 0)).2.1 < N.len x1.2.1)
                                            (
                                              N.ite (0 ≤ (N.rd x0 x1.1 (0, 0, 0, 0)).2.2.1)
                                                (
                                                  N.ite ((N.rd x0 x1.1 (0, 0, 0, 0)).2.2.1 < N.len r1.2.2.1)
                                                    (
                                                      N.let_ (N.set r1.2.2.1 ((N.rd x0 x1.1 (0, 0, 0, 0)).2.2.1) (N.rd x1.2.1 ((N.rd x0 x1.1 (0, 0, 0, 0)).2.1) 0)) fun v4 =>
                                                        some (N.add .i64 x1.1 1, r1.2.1, v4, r1.2.2.2))
                                                    none)
                                                none)
                                            none)
                                        none)
                                    (
                                      N.bind (spec_Min 999 x2) fun r3 =>
                                        N.bind (spec_Max 0 r3) fun r4 =>
                                          N.ite (0 ≤ (N.rd x0 x1.1 (0, 0, 0, 0)).2.1)
                                            (
                                              N.ite ((N.rd x0 x1.1 (0, 0, 0, 0)).2.1 < N.len r1.2.1)
                                                (
                                                  N.let_ (N.set r1.2.1 ((N.rd x0 x1.1 (0, 0, 0, 0)).2.1) r4) fun v5 =>
                                                    some (N.add .i64 x1.1 1, v5, r1.2.2.1, r1.2.2.2))
                                                none)
                                            none))))))
                none)
            none)

noncomputable def spec_l13Run (x0 : List Op) (x1 : Visit) : Option ((List Entry) × (List State)) :=
  N.bind (spec_StartState) fun r1 =>
    loopF (fun (s1 : List Entry × List State × (Int × List Int × List Int × List Int)) =>
        N.bind (spec_IsScript x0) fun r2 =>
          N.cond r2
            (
              N.bind (spec_IsVisit x1) fun r3 =>
                N.cond r3
                  (
                    N.bind (spec_IsDone x0 s1.2.2) fun r4 =>
                      N.cond (N.not r4)
                        (
                          N.bind (spec_WantOf x0 s1.2.2) fun r5 =>
                            N.cond (N.gt r5.1 0)
                              (
                                N.bind (spec_LiveValue x1 r5 (N.len s1.1)) fun r6 =>
                                  N.ite (N.fits s1.1 [(r5.1, r5.2, r6)] 40)
                                    (
                                      N.bind (spec_StepState x0 s1.2.2 r6) fun r7 =>
                                        N.ite (N.fits s1.2.1 [r7] 80)
                                          (some (.inl (N.app s1.1 [(r5.1, r5.2, r6)], N.app s1.2.1 [r7], r7)))
                                          none)
                                    none)
                              (
                                N.bind (spec_StepState x0 s1.2.2 0) fun r8 =>
                                  N.ite (N.fits s1.2.1 [r8] 80)
                                    (some (.inl (s1.1, N.app s1.2.1 [r8], r8)))
                                    none))
                        (some (.inr (s1.1, s1.2.1))))
                  (some (.inr (s1.1, s1.2.1))))
            (some (.inr (s1.1, s1.2.1))))
      ([], [r1], r1)

noncomputable def spec_RecordVisit (x0 : List Op) (x1 : Visit) : Option ((List Entry) × Int × (List Int) × (List Int) × (List Int)) :=
  N.bind (spec_l13Run x0 x1) fun r1 =>
    N.ite (0 ≤ N.sub .i64 (N.len r1.2) 1)
      (
        N.ite (N.sub .i64 (N.len r1.2) 1 < N.len r1.2)
          (
            N.bind (spec_l11Copy (N.rd r1.2 (N.sub .i64 (N.len r1.2) 1) (0, [], [], []))) fun r2 =>
              some (r1.1, r2.1, r2.2.1, r2.2.2.1, r2.2.2.2))
          none)
      none

noncomputable def spec_l13Entries (x0 : l1Cur) : Option ((List Entry) × l1Cur) :=
  N.bind (spec_l10Draw x0) fun r1 =>
    N.bind (spec_l12Draw r1.2) fun r2 =>
      N.bind (spec_RecordVisit r1.1 (r2.1, r2.2.1, r2.2.2.1, r2.2.2.2.1)) fun r3 =>
        N.cond (N.gt (N.len r3.1) 0)
          (
            N.bind (spec_l1Below r2.2.2.2.2 (N.len r3.1)) fun r4 =>
              N.bind (spec_l1Below r4.2 8) fun r5 =>
                N.cond (N.eq r5.1 0)
                  (
                    N.bind (spec_l1Int r5.2 [0, 5, 2]) fun r6 =>
                      N.ite (0 ≤ r4.1)
                        (
                          N.ite (r4.1 < N.len r3.1)
                            (
                              N.let_ (N.set r3.1 r4.1 (r6.1, (N.rd r3.1 r4.1 (0, (0, 0, 0), 0)).2.1, (N.rd r3.1 r4.1 (0, (0, 0, 0), 0)).2.2)) fun v1 =>
                                some (v1, r6.2))
                            none)
                        none)
                  (
                    N.cond (N.eq r5.1 1)
                      (
                        N.bind (spec_l1Int r5.2 [(-1), 999, 1000]) fun r7 =>
                          N.ite (0 ≤ r4.1)
                            (
                              N.ite (r4.1 < N.len r3.1)
                                (
                                  N.let_ (N.set r3.1 r4.1 ((N.rd r3.1 r4.1 (0, (0, 0, 0), 0)).1, (N.rd r3.1 r4.1 (0, (0, 0, 0), 0)).2.1, r7.1)) fun v2 =>
                                    some (v2, r7.2))
                                none)
                            none)
                      (
                        N.cond (N.eq r5.1 2)
                          (
                            N.bind (spec_l4Any r5.2) fun r8 =>
                              N.ite (0 ≤ r4.1)
                                (
                                  N.ite (r4.1 < N.len r3.1)
                                    (
                                      N.let_ (N.set r3.1 r4.1 ((N.rd r3.1 r4.1 (0, (0, 0, 0), 0)).1, r8.1, (N.rd r3.1 r4.1 (0, (0, 0, 0), 0)).2.2)) fun v3 =>
                                        some (v3, r8.2))
                                    none)
                                none)
                          (some (r3.1, r5.2)))))
          (some (r3.1, r2.2.2.2.2))

noncomputable def spec_DrawReplay (x0 : List Int) : Option ((List Op) × (List Entry)) :=
  N.bind (spec_l1New x0) fun r1 =>
    N.bind (spec_l10Draw r1) fun r2 =>
      N.bind (spec_l12Draw r2.2) fun r3 =>
        N.bind (spec_RecordVisit r2.1 (r3.1, r3.2.1, r3.2.2.1, r3.2.2.2.1)) fun r4 =>
          N.bind (spec_l1Below r3.2.2.2.2 7) fun r5 =>
            N.cond (N.eq r5.1 0)
              (
                N.cond (N.gt (N.len r4.1) 0)
                  (
                    N.ite (0 ≤ N.sub .i64 (N.len r4.1) 1)
                      (
                        N.ite (N.sub .i64 (N.len r4.1) 1 ≤ N.len r4.1)
                          (some (r2.1, N.cut r4.1 0 (N.sub .i64 (N.len r4.1) 1)))
                          none)
                      none)
                  (some (r2.1, r4.1)))
              (
                N.cond (N.eq r5.1 1)
                  (
                    N.ite (N.fits r4.1 [(2, (0, 0, 0), 5)] 40)
                      (some (r2.1, N.app r4.1 [(2, (0, 0, 0), 5)]))
                      none)
                  (
                    N.cond (N.eq r5.1 2)
                      (
                        N.cond (N.gt (N.len r4.1) 0)
                          (
                            N.bind (spec_l1Below r5.2 (N.len r4.1)) fun r6 =>
                              N.bind (spec_l1Below r6.2 9) fun r7 =>
                                N.ite (0 ≤ r6.1)
                                  (
                                    N.ite (r6.1 < N.len r4.1)
                                      (some (r2.1, N.set r4.1 r6.1 ((N.rd r4.1 r6.1 (0, (0, 0, 0), 0)).1, (N.rd r4.1 r6.1 (0, (0, 0, 0), 0)).2.1, r7.1)))
                                      none)
                                  none)
                          (some (r2.1, r4.1)))
                      (
                        N.cond (N.eq r5.1 3)
                          (
                            N.bind (spec_l13Entries r5.2) fun r8 =>
                              some (r2.1, r8.1))
                          (
                            N.cond (N.eq r5.1 4)
                              (
                                N.bind (spec_l10Any r5.2) fun r9 =>
                                  some (r9.1, r4.1))
                              (some (r2.1, r4.1))))))

noncomputable def spec_ToOld (x0 : List Entry) : Option (List (List Int)) :=
  loopF (fun (s1 : List (List Int) × Int) =>
      N.cond (N.lt s1.2 (N.len x0))
        (
          N.ite (0 ≤ s1.2)
            (
              N.ite (s1.2 < N.len x0)
                (
                  N.ite (0 ≤ s1.2)
                    (
                      N.ite (s1.2 < N.len x0)
                        (
                          N.ite (N.fits s1.1 [[(N.rd x0 s1.2 (0, (0, 0, 0), 0)).1, (N.rd x0 s1.2 (0, (0, 0, 0), 0)).2.2]] 24)
                            (some (.inl (N.app s1.1 [[(N.rd x0 s1.2 (0, (0, 0, 0), 0)).1, (N.rd x0 s1.2 (0, (0, 0, 0), 0)).2.2]], N.add .i64 s1.2 1)))
                            none)
                        none)
                    none)
                none)
            none)
        (some (.inr s1.1)))
    ([], 0)

noncomputable def spec_DrawMigrate (x0 : List Int) : Option ((List Op) × (List (List Int))) :=
  N.bind (spec_DrawReplay x0) fun r1 =>
    N.bind (spec_l1New x0) fun r2 =>
      N.bind (spec_ToOld r1.2) fun r3 =>
        N.cond (N.pairsB r3)
          (N.cond (N.gt (N.len r3) 0)
            (N.bind (spec_l1Below r2 8) fun r4 =>
              N.cond (N.eq r4.1 0)
                (some (r1.1, N.oldApp r3))
                (N.cond (N.eq r4.1 1)
                  (N.bind (spec_l1Int r4.2 [(-1), 999, 1000]) fun r5 =>
                    some (r1.1, N.oldSet r3 r5.1))
                  (some (r1.1, r3))))
            (some (r1.1, r3)))
          none

noncomputable def impl_played (x0 : List Op) (x1 : List Entry) : Option (Played × (List State)) :=
  N.bind (impl_StartState) fun r1 =>
    N.bind (impl_IsScript x0) fun r2 =>
      N.cond (N.not r2)
        (some ((2, 0, r1), [r1]))
        (
          N.bind (impl_AreEntries x1) fun r3 =>
            N.cond (N.not r3)
              (some ((2, 0, r1), [r1]))
              (
                loopF (fun (s1 : List State × Int × (Int × Int × Int × List Int × List Int × List Int) × (Int × List Int × List Int × List Int)) =>
                    N.bind (impl_IsDone x0 s1.2.2.2) fun r4 =>
                      N.cond (N.not r4)
                        (
                          N.bind (impl_WantOf x0 s1.2.2.2) fun r5 =>
                            N.cond (N.ne r5.1 0)
                              (
                                N.cond (N.eq s1.2.1 (N.len x1))
                                  (some (.inr ((2, s1.2.1, s1.2.2.2), s1.1)))
                                  (
                                    N.ite (0 ≤ s1.2.1)
                                      (
                                        N.ite (s1.2.1 < N.len x1)
                                          (
                                            N.cond (N.ne ((N.rd x1 s1.2.1 (0, (0, 0, 0), 0)).1) r5.1)
                                              (some (.inr ((1, s1.2.1, s1.2.2.2), s1.1)))
                                              (
                                                N.ite (0 ≤ s1.2.1)
                                                  (
                                                    N.ite (s1.2.1 < N.len x1)
                                                      (
                                                        N.cond (N.not (N.both (N.eq (((N.rd x1 s1.2.1 (0, (0, 0, 0), 0)).2.1).1) r5.2.1) (N.both (N.eq (((N.rd x1 s1.2.1 (0, (0, 0, 0), 0)).2.1).2.1) r5.2.2.1) (N.eq (((N.rd x1 s1.2.1 (0, (0, 0, 0), 0)).2.1).2.2) r5.2.2.2))))
                                                          (some (.inr ((1, s1.2.1, s1.2.2.2), s1.1)))
                                                          (
                                                            N.ite (0 ≤ s1.2.1)
                                                              (
                                                                N.ite (s1.2.1 < N.len x1)
                                                                  (
                                                                    N.bind (impl_StepState x0 s1.2.2.2 ((N.rd x1 s1.2.1 (0, (0, 0, 0), 0)).2.2)) fun r6 =>
                                                                      N.ite (N.fits s1.1 [r6] 80)
                                                                        (some (.inl (N.app s1.1 [r6], N.add .i64 s1.2.1 1, s1.2.2.1, r6)))
                                                                        none)
                                                                  none)
                                                              none))
                                                      none)
                                                  none))
                                          none)
                                      none))
                              (
                                N.bind (impl_StepState x0 s1.2.2.2 0) fun r7 =>
                                  N.ite (N.fits s1.1 [r7] 80)
                                    (some (.inl (N.app s1.1 [r7], s1.2.1, s1.2.2.1, r7)))
                                    none))
                        (
                          Option.map Sum.inr
                            (
                              N.cond (N.lt s1.2.1 (N.len x1))
                                (some ((1, s1.2.1, s1.2.2.2), s1.1))
                                (some ((0, 0, s1.2.2.2), s1.1)))))
                  ([r1], 0, (0, 0, 0, [], [], []), r1)))

noncomputable def impl_Replay (x0 : List Op) (x1 : List Entry) : Option (Int × Int × Int × (List Int) × (List Int) × (List Int)) :=
  N.bind (impl_played x0 x1) fun r1 =>
    N.bind (impl_copyState r1.1.2.2) fun r2 =>
      some (r1.1.1, r1.1.2.1, r2.1, r2.2.1, r2.2.2.1, r2.2.2.2)

noncomputable def strconv_Itoa (x0 : Int) : Option (ByteArray) :=
  N.itoa x0

noncomputable def impl_FormatInt (x0 : Int) : Option (ByteArray) :=
  N.bind (strconv_Itoa x0) fun r1 =>
    some r1

noncomputable def strings_Join (x0 : List ByteArray) (x1 : ByteArray) : Option (ByteArray) :=
  N.joinS x0 x1

noncomputable def impl_joinWith (x0 : List Int) (x1 : ByteArray) : Option (ByteArray) :=
  loopF (fun (s1 : List ByteArray × Int) =>
      N.cond (N.lt s1.2 (N.len x0))
        (
          N.ite (0 ≤ s1.2)
            (
              N.ite (s1.2 < N.len x0)
                (
                  N.bind (impl_FormatInt (N.rd x0 s1.2 0)) fun r1 =>
                    N.ite (N.fits s1.1 [r1] 16)
                      (some (.inl (N.app s1.1 [r1], N.add .i64 s1.2 1)))
                      none)
                none)
            none)
        (
          Option.map Sum.inr
            (
              N.bind (strings_Join s1.1 x1) fun r2 =>
                some r2)))
    ([], 0)

noncomputable def impl_OldText (x0 : List (List Int)) : Option (ByteArray) :=
  N.cond (N.eq (N.len x0) 0)
    (some (N.lit [45]))
    (
      loopF (fun (s1 : List ByteArray × Int) =>
          N.cond (N.lt s1.2 (N.len x0))
            (
              N.ite (0 ≤ s1.2)
                (
                  N.ite (s1.2 < N.len x0)
                    (
                      N.bind (impl_joinWith (N.rd x0 s1.2 []) (N.lit [58])) fun r1 =>
                        N.ite (N.fits s1.1 [r1] 16)
                          (some (.inl (N.app s1.1 [r1], N.add .i64 s1.2 1)))
                          none)
                    none)
                none)
            (
              Option.map Sum.inr
                (
                  N.bind (strings_Join s1.1 (N.lit [32])) fun r2 =>
                    some r2)))
        ([], 0))

noncomputable def laws_FnMigrated (x0 : List Int) : Option (Bool) :=
  N.bind (laws_big x0) fun r1 =>
    N.cond r1
      (some true)
      (
        N.bind (spec_DrawRecordVisit x0) fun r2 =>
          N.bind (impl_RecordVisit r2.1 (r2.2.1, r2.2.2.1, r2.2.2.2.1, r2.2.2.2.2)) fun r3 =>
            N.bind (impl_IsScript r2.1) fun r4 =>
              N.bind (spec_IsScript r2.1) fun r5 =>
                N.cond (N.neB r4 r5)
                  (some false)
                  (
                    N.bind (impl_IsScript r2.1) fun r6 =>
                      N.cond r6
                        (
                          N.bind (impl_IsVisit (r2.2.1, r2.2.2.1, r2.2.2.2.1, r2.2.2.2.2)) fun r7 =>
                            N.cond r7
                              (
                                N.bind (impl_ToOld r3.1) fun r8 =>
                                  N.bind (impl_Migrate r2.1 r8) fun r9 =>
                                    N.cond (N.not r9.2)
                                      (some false)
                                      (
                                        N.bind (impl_EqualEntries r9.1 r3.1) fun r10 =>
                                          N.cond (N.not r10)
                                            (some false)
                                            (
                                              N.bind (impl_ToOld r3.1) fun r11 =>
                                                N.bind (impl_IsEquivalent r2.1 r11 r3.1) fun r12 =>
                                                  N.cond (N.not r12)
                                                    (some false)
                                                    (
                                                      N.bind (spec_DrawMigrate x0) fun r13 =>
                                                        N.bind (impl_Migrate r13.1 r13.2) fun r14 =>
                                                          N.cond r14.2
                                                            (
                                                              N.bind (impl_Replay r13.1 r14.1) fun r15 =>
                                                                N.cond (N.ne r15.1 0)
                                                                  (some false)
                                                                  (
                                                                    N.bind (impl_ToOld r14.1) fun r16 =>
                                                                      N.bind (impl_OldText r16) fun r17 =>
                                                                        N.bind (impl_OldText r13.2) fun r18 =>
                                                                          N.cond (N.neS r17 r18)
                                                                            (some false)
                                                                            (
                                                                              N.cond r14.2
                                                                                (some true)
                                                                                (some (N.eq (N.len r14.1) 0)))))
                                                            (
                                                              N.cond r14.2
                                                                (some true)
                                                                (some (N.eq (N.len r14.1) 0)))))))
                              (
                                N.bind (spec_DrawMigrate x0) fun r19 =>
                                  N.bind (impl_Migrate r19.1 r19.2) fun r20 =>
                                    N.cond r20.2
                                      (
                                        N.bind (impl_Replay r19.1 r20.1) fun r21 =>
                                          N.cond (N.ne r21.1 0)
                                            (some false)
                                            (
                                              N.bind (impl_ToOld r20.1) fun r22 =>
                                                N.bind (impl_OldText r22) fun r23 =>
                                                  N.bind (impl_OldText r19.2) fun r24 =>
                                                    N.cond (N.neS r23 r24)
                                                      (some false)
                                                      (
                                                        N.cond r20.2
                                                          (some true)
                                                          (some (N.eq (N.len r20.1) 0)))))
                                      (
                                        N.cond r20.2
                                          (some true)
                                          (some (N.eq (N.len r20.1) 0)))))
                        (
                          N.bind (spec_DrawMigrate x0) fun r25 =>
                            N.bind (impl_Migrate r25.1 r25.2) fun r26 =>
                              N.cond r26.2
                                (
                                  N.bind (impl_Replay r25.1 r26.1) fun r27 =>
                                    N.cond (N.ne r27.1 0)
                                      (some false)
                                      (
                                        N.bind (impl_ToOld r26.1) fun r28 =>
                                          N.bind (impl_OldText r28) fun r29 =>
                                            N.bind (impl_OldText r25.2) fun r30 =>
                                              N.cond (N.neS r29 r30)
                                                (some false)
                                                (
                                                  N.cond r26.2
                                                    (some true)
                                                    (some (N.eq (N.len r26.1) 0)))))
                                (
                                  N.cond r26.2
                                    (some true)
                                    (some (N.eq (N.len r26.1) 0))))))

end D
end Go.Sh
set_option linter.unusedVariables false
set_option linter.unusedSimpArgs false
namespace Go.Sh
open Go
/-! ## Loops -/
theorem loopN_det {S R : Type} {step : S → Option (S ⊕ R)} : ∀ {n m : Nat} {s : S} {a b : R}, loopN step n s = some a → loopN step m s = some b → a = b
  | 0, _, _, _, _, h, _ => by simp [loopN] at h
  | _ + 1, 0, _, _, _, _, h => by simp [loopN] at h
  | n + 1, m + 1, s, a, b, h1, h2 => by
    simp only [loopN] at h1 h2
    split at h1
    · cases h1
    · rename_i s' hs; rw [hs] at h2; exact loopN_det h1 h2
    · rename_i r hr; rw [hr] at h2; simp at h1 h2; rw [← h1, ← h2]

theorem loopF_of {S R : Type} {step : S → Option (S ⊕ R)} {s : S} {n : Nat} {r : R} (h : loopN step n s = some r) : loopF step s = some r := by
  have hx : ∃ n r, loopN step n s = some r := ⟨n, r, h⟩
  unfold loopF
  rw [dif_pos hx]
  obtain ⟨m, hm⟩ := Classical.choose_spec hx |> fun h => (⟨_, Classical.choose_spec h⟩ : ∃ v, loopN step (Classical.choose hx) s = some v)
  have := Classical.choose_spec (Classical.choose_spec hx)
  rw [loopN_det this h]

theorem loopF_inr {S R : Type} {step : S → Option (S ⊕ R)} {s : S} {r : R} (h : step s = some (.inr r)) : loopF step s = some r :=
  loopF_of (n := 1) (by simp [loopN, h])

theorem loopF_inl {S R : Type} {step : S → Option (S ⊕ R)} {s s' : S} (h : step s = some (.inl s')) : loopF step s = loopF step s' := by
  by_cases hx : ∃ n r, loopN step n s' = some r
  · obtain ⟨n, r, hn⟩ := hx
    rw [loopF_of hn, loopF_of (n := n + 1) (r := r) (by simp [loopN, h, hn])]
  · have hy : ¬ ∃ n r, loopN step n s = some r := by
      rintro ⟨n, r, hn⟩
      cases n with
      | zero => simp [loopN] at hn
      | succ n => simp only [loopN, h] at hn; exact hx ⟨n, r, hn⟩
    unfold loopF
    rw [dif_neg hx, dif_neg hy]

/-- a loop over a list: what each round does -/
def each {α σ R : Type} (body : α → σ → Option (σ ⊕ R)) (fin : σ → Option R) : List α → σ → Option R
  | [], a => fin a
  | x :: xs, a => match body x a with
    | none => none
    | some (.inl a') => each body fin xs a'
    | some (.inr r) => some r

/-- counting up to n -/
theorem loop_upto {σ S R : Type} {step : S → Option (S ⊕ R)} (n : Nat) (emb : Nat → σ → S) (st : Nat → σ) (r : R)
    (hstep : ∀ k < n, step (emb k (st k)) = some (.inl (emb (k + 1) (st (k + 1))))) (hend : step (emb n (st n)) = some (.inr r)) : loopF step (emb 0 (st 0)) = some r := by
  have key : ∀ (m k : Nat), k + m = n → loopF step (emb k (st k)) = some r := by
    intro m
    induction m with
    | zero => intro k hk; have : k = n := by omega
              subst this; exact loopF_inr hend
    | succ m ih => intro k hk; rw [loopF_inl (hstep k (by omega))]; exact ih (k + 1) (by omega)
  exact key n 0 (by omega)

/-! ## Words -/

section
variable {R α β : Type}
@[simp] theorem bind_some' (x : β) (f : β → Option R) : N.bind (some x) f = f x := rfl

@[simp] theorem cond_true (x y : Option R) : N.cond true x y = x := rfl

@[simp] theorem cond_false (x y : Option R) : N.cond false x y = y := rfl

theorem cond_if (b : Bool) (x y : Option R) : N.cond b x y = if b = true then x else y := rfl

theorem cond_dec (p : Prop) [Decidable p] (x y : Option R) : N.cond (decide p) x y = if p then x else y := by unfold N.cond; by_cases h : p <;> simp [h]

theorem ite_if (c : Prop) [Decidable c] (x y : Option R) : N.ite c x y = if c then x else y := rfl

theorem nite_pos {c : Prop} [Decidable c] (h : c) (x y : Option R) : N.ite c x y = x := if_pos h

theorem nite_neg {c : Prop} [Decidable c] (h : ¬ c) (x y : Option R) : N.ite c x y = y := if_neg h

theorem lt_d (a b : Int) : N.lt a b = decide (a < b) := rfl

theorem le_d (a b : Int) : N.le a b = decide (a ≤ b) := rfl

theorem gt_d (a b : Int) : N.gt a b = decide (b < a) := rfl

theorem ge_d (a b : Int) : N.ge a b = decide (b ≤ a) := rfl

theorem eq_d (a b : Int) : N.eq a b = decide (a = b) := rfl

theorem neS_d (a b : ByteArray) : N.neS a b = decide (¬ a = b) := by
  unfold N.neS
  by_cases h : a = b
  · subst h; simp
  · have h2 : ¬ a.toList = b.toList := fun e => by
      rw [ByteArray.toList_eq, ByteArray.toList_eq] at e
      obtain ⟨x⟩ := a
      obtain ⟨y⟩ := b
      exact h (congrArg ByteArray.mk (Array.toList_inj.1 e))
    have h3 : (a.toList == b.toList) = false := by rw [Bool.eq_false_iff]; intro e; exact h2 (eq_of_beq e)
    rw [h3]; simp [h]

theorem ne_d (a b : Int) : N.ne a b = decide (¬ a = b) := by
  unfold N.ne; by_cases h : a = b <;> simp [h]

theorem len_d (xs : List α) : N.len xs = (xs.length : Int) := by simp [N.len]

theorem rd_at (xs : List α) (k : Nat) (hk : k < xs.length) (d : α) : N.rd xs (k : Int) d = xs[k] := by
  simp [N.rd, List.getD, hk]

theorem wrap_id {n : Int} (h1 : -9223372036854775808 ≤ n) (h2 : n < 9223372036854775808) : IntKind.i64.wrap n = n := by
  have e1 : ((2 : Int) ^ IntKind.i64.bits) = 18446744073709551616 := by decide
  have e2 : ((2 : Int) ^ (IntKind.i64.bits - 1)) = 9223372036854775808 := by decide
  have e3 : IntKind.i64.signed = true := rfl
  unfold IntKind.wrap
  rw [e1, e2, e3]
  simp only [Bool.true_and, decide_eq_true_eq]
  split <;> omega

theorem add_id {a b : Int} (h1 : -9223372036854775808 ≤ a + b) (h2 : a + b < 9223372036854775808) : N.add .i64 a b = a + b := wrap_id h1 h2

theorem sub_id {a b : Int} (h1 : -9223372036854775808 ≤ a - b) (h2 : a - b < 9223372036854775808) : N.sub .i64 a b = a - b := wrap_id h1 h2

theorem mul_id {a b : Int} (h1 : -9223372036854775808 ≤ a * b) (h2 : a * b < 9223372036854775808) : N.mul .i64 a b = a * b := wrap_id h1 h2

theorem next_id {k n : Nat} (hk : k < n) (hn : (n : Int) < 9223372036854775808) : N.add .i64 (k : Int) 1 = ((k + 1 : Nat) : Int) := by
  rw [add_id (by omega) (by omega)]; omega

end
end Go.Sh
set_option linter.unusedVariables false
set_option linter.unusedSimpArgs false
namespace Go.Sh
open Go
/-! ## Bounds of data -/
class Data (α : Type) where
  bd : α → Prop
  ok : α → Prop
  le : ∀ x, ok x → bd x

open Data
instance : Data Int := ⟨fun x => -9223372036854775808 ≤ x ∧ x < 9223372036854775808, fun x => -9223372036854775808 ≤ x ∧ x < 9223372036854775808, fun _ h => h⟩

instance : Data Bool := ⟨fun _ => True, fun _ => True, fun _ h => h⟩

instance : Data ByteArray := ⟨fun s => s.size ≤ 4611686018427387904, fun s => s.size ≤ 4611686018427387904, fun _ h => h⟩

instance {α β : Type} [Data α] [Data β] : Data (α × β) := ⟨fun x => bd x.1 ∧ bd x.2, fun x => ok x.1 ∧ ok x.2, fun x h => ⟨le _ h.1, le _ h.2⟩⟩

instance {α : Type} [Data α] : Data (List α) := ⟨fun xs => xs.length ≤ 4611686018427387904 ∧ ∀ x ∈ xs, bd x, fun xs => xs.length ≤ 1048576 ∧ ∀ x ∈ xs, ok x, fun xs h => ⟨by omega, fun x hx => le x (h.2 x hx)⟩⟩

section
variable {α : Type} [Data α]
theorem Data.ok.at {xs : List α} (h : ok xs) {k : Nat} (hk : k < xs.length) : ok xs[k] := h.2 _ (List.getElem_mem hk)

theorem Data.bd.at {xs : List α} (h : bd xs) {k : Nat} (hk : k < xs.length) : bd xs[k] := h.2 _ (List.getElem_mem hk)

theorem Data.ok.sub {xs ys : List α} (h : ok xs) (hs : ys.Sublist xs) : ok ys := ⟨Nat.le_trans hs.length_le h.1, fun x hx => h.2 x (hs.subset hx)⟩

end
/-! ## Words, once more -/

section
variable {R α β : Type}
theorem neB_d (a b : Bool) : N.neB a b = decide (¬ a = b) := by cases a <;> cases b <;> rfl

theorem not_d (p : Prop) [Decidable p] : N.not (decide p) = decide (¬ p) := by unfold N.not; by_cases h : p <;> simp [h]

theorem both_d (p q : Prop) [Decidable p] [Decidable q] : N.both (decide p) (decide q) = decide (p ∧ q) := by unfold N.both; by_cases h : p <;> by_cases h' : q <;> simp [h, h']

theorem not_b (b : Bool) : N.not b = !b := rfl

theorem cond_not (b : Bool) (x y : Option R) : N.cond (N.not b) x y = N.cond b y x := by cases b <;> rfl

theorem zip_all_eq [DecidableEq α] : ∀ {xs ys : List α}, xs.length = ys.length → ((List.zip xs ys).all fun p => decide (p.1 = p.2)) = decide (xs = ys)
  | [], [], _ => by simp
  | x :: xs, y :: ys, h => by
    simp only [List.zip_cons_cons, List.all_cons, zip_all_eq (xs := xs) (ys := ys) (by simpa using h)]
    by_cases h1 : x = y <;> by_cases h2 : xs = ys <;> simp [h1, h2]
  | [], _ :: _, h => by simp at h
  | _ :: _, [], h => by simp at h

end
end Go.Sh
set_option linter.unusedVariables false
set_option linter.unusedSimpArgs false
set_option synthInstance.maxSize 100000
set_option maxHeartbeats 1000000
namespace Go.Sh
open Go Data
namespace D
end D
end Go.Sh
set_option linter.unusedVariables false
set_option linter.unusedSimpArgs false
set_option synthInstance.maxSize 100000
set_option maxHeartbeats 1000000
namespace Go.Sh
open Go Data
namespace D
theorem spec_l1In_is (a b c : Int) : spec_l1In a b c = some (decide (b ≤ a ∧ a ≤ c)) := by
  unfold spec_l1In
  simp only [ge_d, le_d, cond_dec]
  by_cases h1 : b ≤ a <;> by_cases h2 : a ≤ c <;> simp [h1, h2]

theorem impl_InRange_is (a b c : Int) : impl_InRange a b c = some (decide (b ≤ a ∧ a ≤ c)) := by
  unfold impl_InRange
  simp only [ge_d, le_d, cond_dec]
  by_cases h1 : b ≤ a <;> by_cases h2 : a ≤ c <;> simp [h1, h2]

theorem impl_at_is (a b : Int) : impl_at a b = some (decide (0 ≤ a ∧ a < b)) := by
  unfold impl_at
  simp only [ge_d, lt_d, cond_dec]
  by_cases h1 : 0 ≤ a <;> by_cases h2 : a < b <;> simp [h1, h2]

theorem rem_pos {a b : Int} (ha : 0 ≤ a) : N.rem a b = a % b := by unfold N.rem; exact Int.tmod_eq_emod_of_nonneg ha

theorem mod_core {p q : Int} (h1 : 1 ≤ q) (h2 : q ≤ 1000000000000) : N.rem (N.add .i64 (N.rem p q) q) q = p % q := by
  have hr : -q < p.tmod q ∧ p.tmod q < q := by
    constructor
    · have := Int.lt_tmod_of_pos p (by omega : 0 < q); omega
    · exact Int.tmod_lt_of_pos p (by omega)
  have e : N.add .i64 (N.rem p q) q = p.tmod q + q := add_id (by unfold N.rem; omega) (by unfold N.rem; omega)
  rw [e, rem_pos (by omega)]
  have : p.tmod q % q = p % q := by
    have h := Int.mul_tdiv_add_tmod p q
    conv => rhs; rw [← h]
    simp [Int.add_emod]
  rw [Int.add_emod, Int.emod_self, Int.add_zero, Int.emod_emod_of_dvd _ (Int.dvd_refl q), this]

theorem spec_Mod_is {p q : Int} (h1 : 1 ≤ q) (h2 : q ≤ 1000000000000) : spec_Mod p q = some (p % q) := by
  unfold spec_Mod
  rw [spec_l1In_is, bind_some', not_d, cond_dec, if_neg (by simp; omega), nite_neg (by omega), nite_neg (by omega), mod_core h1 h2]

theorem impl_Mod_is {p q : Int} (h1 : 1 ≤ q) (h2 : q ≤ 1000000000000) : impl_Mod p q = some (p % q) := by
  unfold impl_Mod
  rw [impl_InRange_is, bind_some', not_d, cond_dec, if_neg (by simp; omega), nite_neg (by omega), nite_neg (by omega), mod_core h1 h2]

/-! ## Hash -/
def hash1 (h v : Int) : Int := (h * 1000003 + v % 2147483647 + 13) % 2147483647

def hashP (l : List Int) : Int := l.foldl hash1 11

theorem hash1_in (h v : Int) : 0 ≤ hash1 h v ∧ hash1 h v < 2147483647 := by unfold hash1; omega

theorem hash_fold : ∀ (l : List Int) (h : Int), 0 ≤ h → h < 2147483647 → 0 ≤ l.foldl hash1 h ∧ l.foldl hash1 h < 2147483647
  | [], h, h0, h1 => ⟨h0, h1⟩
  | v :: l, h, _, _ => hash_fold l (hash1 h v) (hash1_in h v).1 (hash1_in h v).2

theorem hash_step {h v : Int} (h0 : 0 ≤ h) (h1 : h < 2147483647) : N.rem (N.add .i64 (N.add .i64 (N.mul .i64 h 1000003) (v % 2147483647)) 13) 2147483647 = hash1 h v := by
  rw [mul_id (by omega) (by omega), add_id (a := h * 1000003) (b := v % 2147483647) (by omega) (by omega), add_id (by omega) (by omega), rem_pos (by omega)]; rfl

def hashBody (mod : Int → Int → Option Int) (l : List Int) (s1 : Int × Int) : Option ((Int × Int) ⊕ Int) :=
  N.cond (N.lt s1.2 (N.len l)) (N.ite (0 ≤ s1.2) (N.ite (s1.2 < N.len l) (N.bind (mod (N.rd l s1.2 0) 2147483647) fun r1 => some (.inl (N.rem (N.add .i64 (N.add .i64 (N.mul .i64 s1.1 1000003) r1) 13) 2147483647, N.add .i64 s1.2 1))) none) none) (some (.inr s1.1))

theorem hash_loop {mod : Int → Int → Option Int} (hm : ∀ v, mod v 2147483647 = some (v % 2147483647)) {l : List Int} (hl : l.length ≤ 4611686018427387904) : loopF (hashBody mod l) (11, 0) = some (hashP l) := by
  refine loop_upto l.length (fun k (h : Int) => (h, (k : Int))) (fun k => (l.take k).foldl hash1 11) (hashP l) (fun k hk => ?_) ?_
  · have hin := hash_fold (l.take k) 11 (by omega) (by omega)
    have hb : hashBody mod l ((l.take k).foldl hash1 11, (k : Int)) = some (.inl (hash1 ((l.take k).foldl hash1 11) l[k], ((k + 1 : Nat) : Int))) := by
      simp only [hashBody, ite_if]; simp only [lt_d, len_d, cond_dec]
      rw [if_pos (by omega), if_pos (by omega), if_pos (by omega), rd_at l k hk, hm, bind_some', hash_step hin.1 hin.2, next_id hk (by omega)]
    simp only [hb, List.take_succ_eq_append_getElem hk, List.foldl_append, List.foldl_cons, List.foldl_nil]
  · simp only [hashBody, lt_d, len_d, cond_dec, List.take_length]
    rw [if_neg (by omega)]; rfl

theorem spec_Hash_is {l : List Int} (hl : l.length ≤ 4611686018427387904) : spec_Hash l = some (hashP l) := hash_loop (mod := spec_Mod) (fun v => spec_Mod_is (by omega) (by omega)) hl

theorem impl_Hash_is {l : List Int} (hl : l.length ≤ 4611686018427387904) : impl_Hash l = some (hashP l) := hash_loop (mod := impl_Mod) (fun v => impl_Mod_is (by omega) (by omega)) hl

end D
end Go.Sh
set_option linter.unusedVariables false
set_option linter.unusedSimpArgs false
set_option synthInstance.maxSize 100000
set_option maxHeartbeats 1000000
namespace Go.Sh
open Go Data
/-! ## Loops that look for something -/
theorem loop_find {α S R : Type} {step : S → Option (S ⊕ R)} (xs : List α) (emb : Nat → S) (p : α → Option R) (r0 : R)
    (hstep : ∀ (k : Nat) (hk : k < xs.length), step (emb k) = some (match p xs[k] with | some r => .inr r | none => .inl (emb (k + 1))))
    (hend : step (emb xs.length) = some (.inr r0)) : loopF step (emb 0) = some ((xs.findSome? p).getD r0) := by
  have key : ∀ (m k : Nat), k + m = xs.length → loopF step (emb k) = some (((xs.drop k).findSome? p).getD r0) := by
    intro m
    induction m with
    | zero =>
      intro k hk
      have hk' : k = xs.length := by omega
      subst hk'
      rw [loopF_inr hend, List.drop_length]; rfl
    | succ m ih =>
      intro k hk
      have hlt : k < xs.length := by omega
      rw [List.drop_eq_getElem_cons hlt, List.findSome?_cons]
      cases hp : p xs[k] with
      | none => rw [loopF_inl (s' := emb (k + 1)) (by rw [hstep k hlt, hp]), ih (k + 1) (by omega)]
      | some r => rw [loopF_inr (r := r) (by rw [hstep k hlt, hp])]; rfl
  simpa using key xs.length 0 (by omega)

theorem loop_any {α S : Type} {step : S → Option (S ⊕ Bool)} (xs : List α) (emb : Nat → S) (p : α → Bool)
    (hstep : ∀ (k : Nat) (hk : k < xs.length), step (emb k) = some (if p xs[k] = true then .inr true else .inl (emb (k + 1))))
    (hend : step (emb xs.length) = some (.inr false)) : loopF step (emb 0) = some (xs.any p) := by
  rw [loop_find xs emb (fun x => if p x = true then some true else none) false (fun k hk => by rw [hstep k hk]; split <;> rfl) hend]
  congr 1
  induction xs with
  | nil => rfl
  | cons x xs ih =>
    clear hstep hend
    induction (x :: xs) with
    | nil => rfl
    | cons y ys ih2 => rw [List.findSome?_cons, List.any_cons]; cases hp : p y <;> simp [ih2]

theorem loop_all {α S : Type} {step : S → Option (S ⊕ Bool)} (xs : List α) (emb : Nat → S) (p : α → Bool)
    (hstep : ∀ (k : Nat) (hk : k < xs.length), step (emb k) = some (if p xs[k] = true then .inl (emb (k + 1)) else .inr false))
    (hend : step (emb xs.length) = some (.inr true)) : loopF step (emb 0) = some (xs.all p) := by
  rw [loop_find xs emb (fun x => if p x = true then none else some false) true (fun k hk => by rw [hstep k hk]; split <;> rfl) hend]
  congr 1
  clear hstep hend
  induction xs with
  | nil => rfl
  | cons y ys ih2 => rw [List.findSome?_cons, List.all_cons]; cases hp : p y <;> simp [ih2]

/-- looking for a place -/
theorem loop_index {α S : Type} {step : S → Option (S ⊕ Int)} (xs : List α) (emb : Nat → S) (p : α → Bool)
    (hstep : ∀ (k : Nat) (hk : k < xs.length), step (emb k) = some (if p xs[k] = true then .inr (k : Int) else .inl (emb (k + 1))))
    (hend : step (emb xs.length) = some (.inr (-1))) : loopF step (emb 0) = some (if xs.any p = true then (xs.findIdx p : Int) else -1) := by
  have key : ∀ (m k : Nat), k + m = xs.length → loopF step (emb k) = some (if (xs.drop k).any p = true then ((k + (xs.drop k).findIdx p : Nat) : Int) else -1) := by
    intro m
    induction m with
    | zero =>
      intro k hk
      have hk' : k = xs.length := by omega
      subst hk'
      rw [loopF_inr hend, List.drop_length]; rfl
    | succ m ih =>
      intro k hk
      have hlt : k < xs.length := by omega
      rw [List.drop_eq_getElem_cons hlt, List.any_cons, List.findIdx_cons]
      cases hp : p xs[k] with
      | false =>
        rw [loopF_inl (s' := emb (k + 1)) (by rw [hstep k hlt, hp]; rfl), ih (k + 1) (by omega)]
        simp only [Bool.false_or, _root_.cond_false]
        split
        · congr 2; omega
        · rfl
      | true => rw [loopF_inr (r := (k : Int)) (by rw [hstep k hlt, hp]; rfl)]; simp
  simpa using key xs.length 0 (by omega)

namespace D
/-! ## Counts -/

end D
end Go.Sh
set_option linter.unusedVariables false
set_option linter.unusedSimpArgs false
set_option synthInstance.maxSize 100000
set_option maxHeartbeats 1000000
namespace Go.Sh
open Go Data
theorem loop_eq2 {α S : Type} [DecidableEq α] {step : S → Option (S ⊕ Bool)} (xs ys : List α) (emb : Nat → S) (hl : xs.length = ys.length)
    (hstep : ∀ (k : Nat) (hk : k < xs.length) (hk' : k < ys.length), step (emb k) = some (if xs[k] = ys[k] then .inl (emb (k + 1)) else .inr false))
    (hend : step (emb xs.length) = some (.inr true)) : loopF step (emb 0) = some (decide (xs = ys)) := by
  rw [← zip_all_eq hl]
  refine loop_all (xs.zip ys) emb (fun p => decide (p.1 = p.2)) (fun k hk => ?_) ?_
  · have h1 : k < xs.length := by simp at hk; omega
    rw [hstep k h1 (by omega)]
    simp only [List.getElem_zip, decide_eq_true_eq]
  · rw [List.length_zip, ← hl, Nat.min_self]; exact hend

/-- collecting -/
theorem loop_flat {α β : Type} {step : List β × Int → Option ((List β × Int) ⊕ List β)} (xs : List α) (f : α → List β)
    (hstep : ∀ (k : Nat) (hk : k < xs.length), step ((xs.take k).flatMap f, (k : Int)) = some (.inl ((xs.take k).flatMap f ++ f xs[k], ((k + 1 : Nat) : Int))))
    (hend : step (xs.flatMap f, (xs.length : Int)) = some (.inr (xs.flatMap f))) : loopF step ([], 0) = some (xs.flatMap f) := by
  refine loop_upto (r := xs.flatMap f) xs.length (fun k (a : List β) => (a, (k : Int))) (fun k => (xs.take k).flatMap f) (fun k hk => ?_) ?_
  · rw [hstep k hk, List.take_succ_eq_append_getElem hk, List.flatMap_append]; simp
  · rw [List.take_length]; exact hend

theorem flat_len {α β : Type} {f : α → List β} {m : Nat} : ∀ (xs : List α), (∀ x ∈ xs, (f x).length ≤ m) → (xs.flatMap f).length ≤ xs.length * m
  | [], _ => by simp
  | x :: xs, h => by
    have h1 := flat_len xs fun y hy => h y (by simp [hy])
    have h2 := h x (by simp)
    simp only [List.flatMap_cons, List.length_append, List.length_cons, Nat.add_mul]; omega

theorem take_flat_len {α β : Type} {f : α → List β} {m k : Nat} {xs : List α} (h : ∀ x ∈ xs, (f x).length ≤ m) (hk : k ≤ xs.length) : ((xs.take k).flatMap f).length ≤ k * m := by
  have := flat_len (xs.take k) fun y hy => h y (List.mem_of_mem_take hy)
  simpa [Nat.min_eq_left hk] using this

theorem fitsN {α : Type} {xs ys : List α} {b : Nat} (h : xs.length + ys.length ≤ 100000000) (hb : b ≤ 1000000) : N.fits xs ys b := by
  unfold N.fits
  exact Nat.le_trans (Nat.mul_le_mul h hb) (by decide)

namespace D
theorem addr_eq (x y : Address) : N.both (N.eq x.1 y.1) (N.both (N.eq x.2.1 y.2.1) (N.eq x.2.2 y.2.2)) = decide (x = y) := by
  obtain ⟨a, b, c⟩ := x; obtain ⟨d, e, f⟩ := y
  simp only [eq_d, both_d, Prod.mk.injEq]

theorem entry_eq (x y : Entry) : N.both (N.eq x.1 y.1) (N.both (N.eq x.2.1.1 y.2.1.1) (N.both (N.eq x.2.1.2.1 y.2.1.2.1) (N.both (N.eq x.2.1.2.2 y.2.1.2.2) (N.eq x.2.2 y.2.2)))) = decide (x = y) := by
  obtain ⟨a, ⟨b, c, d⟩, e⟩ := x; obtain ⟨a', ⟨b', c', d'⟩, e'⟩ := y
  simp only [eq_d, both_d, Prod.mk.injEq, and_assoc]

theorem eq_len {α : Type} [DecidableEq α] {x y : List α} {K : Option Bool} (h : x.length = y.length → K = some (decide (x = y))) : N.cond (N.ne (N.len x) (N.len y)) (some false) K = some (decide (x = y)) := by
  simp only [ne_d, len_d, cond_dec]
  split
  · rename_i h1
    have : ¬ x = y := fun e => h1 (by rw [e])
    simp [this]
  · exact h (by omega)

theorem slices_Equal_Entry_is {x y : List Entry} (h : x.length ≤ 4611686018427387904) : slices_Equal_Entry x y = some (decide (x = y)) := by
  refine eq_len fun hl => loop_eq2 x y (fun k => (k : Int)) hl (fun k hk hk' => ?_) ?_
  · have h0 : (0 : Int) ≤ (k : Int) := by omega
    have h1 : (k : Int) < (x.length : Int) := by omega
    have h2 : (k : Int) < (y.length : Int) := by omega
    simp only [ite_if]; simp only [lt_d, len_d, cond_dec, h0, h1, h2, if_true, rd_at x k hk, rd_at y k hk', entry_eq, not_d, next_id hk (by omega)]
    by_cases e : x[k] = y[k] <;> simp [e]
  · simp only [lt_d, len_d, cond_dec]; rw [if_neg (by omega)]

theorem impl_EqualEntries_is {x y : List Entry} (h : x.length ≤ 4611686018427387904) : impl_EqualEntries x y = some (decide (x = y)) := by unfold impl_EqualEntries; rw [slices_Equal_Entry_is h]; rfl

end D
end Go.Sh
set_option linter.unusedVariables false
set_option linter.unusedSimpArgs false
set_option synthInstance.maxSize 100000
set_option maxHeartbeats 1000000
namespace Go.Sh
open Go Data
namespace D
end D
end Go.Sh
set_option linter.unusedVariables false
set_option linter.unusedSimpArgs false
set_option synthInstance.maxSize 100000
set_option maxHeartbeats 1000000
namespace Go.Sh
open Go Data
namespace D
/-! ### Captures outside -/
theorem slices_Contains_Address_is {l : List Address} (h : l.length ≤ 4611686018427387904) (x : Address) : slices_Contains_Address l x = some (decide (x ∈ l)) := by
  unfold slices_Contains_Address
  have e : slices_Index_Address l x = some (if l.any (fun y => decide (x = y)) = true then (l.findIdx (fun y => decide (x = y)) : Int) else -1) := by
    refine loop_index l (fun k => (k : Int)) (fun y => decide (x = y)) (fun k hk => ?_) ?_
    · have h0 : (0 : Int) ≤ (k : Int) := by omega
      have h1 : (k : Int) < (l.length : Int) := by omega
      simp only [ite_if]; simp only [lt_d, len_d, cond_dec, h0, h1, if_true, rd_at l k hk, addr_eq, next_id hk (by omega), decide_eq_true_eq]
      split <;> rfl
    · simp only [lt_d, len_d, cond_dec]; rw [if_neg (by omega)]
  rw [e, bind_some', ge_d]
  congr 1
  by_cases hx : x ∈ l
  · have : l.any (fun y => decide (x = y)) = true := List.any_eq_true.2 ⟨x, hx, by simp⟩
    rw [if_pos this]; simp [hx]
  · have : ¬ l.any (fun y => decide (x = y)) = true := fun h => by
      obtain ⟨y, hy, e⟩ := List.any_eq_true.1 h
      simp only [decide_eq_true_eq] at e; subst e; exact hx hy
    rw [if_neg this]; simp [hx]

theorem spec_l9Has_is {l : List Address} (h : l.length ≤ 4611686018427387904) (x : Address) : spec_l9Has l x = some (decide (x ∈ l)) := by
  have e : l.any (fun y => decide (y = x)) = decide (x ∈ l) := by
    by_cases hx : x ∈ l
    · have : l.any (fun y => decide (y = x)) = true := List.any_eq_true.2 ⟨x, hx, by simp⟩
      simp [this, hx]
    · have : ¬ l.any (fun y => decide (y = x)) = true := fun h => by
        obtain ⟨y, hy, e⟩ := List.any_eq_true.1 h
        simp only [decide_eq_true_eq] at e; subst e; exact hx hy
      simp only [Bool.not_eq_true] at this
      simp [hx, this]
  rw [← e]
  refine loop_any l (fun k => (k : Int)) (fun y => decide (y = x)) (fun k hk => ?_) ?_
  · have h0 : (0 : Int) ≤ (k : Int) := by omega
    have h1 : (k : Int) < (l.length : Int) := by omega
    simp only [ite_if]; simp only [lt_d, len_d, cond_dec, h0, h1, if_true, rd_at l k hk, addr_eq, next_id hk (by omega), decide_eq_true_eq]
    split <;> rfl
  · simp only [lt_d, len_d, cond_dec]; rw [if_neg (by omega)]

theorem spec_l5Copy_is {r : Resource} (h : ok r) : spec_l5Copy r = some r := by
  unfold spec_l5Copy
  rw [nite_pos (fitsN (by have := h.2.1.1; simp; omega) (by omega))]; rfl

end D
end Go.Sh
set_option linter.unusedVariables false
set_option linter.unusedSimpArgs false
set_option synthInstance.maxSize 100000
set_option maxHeartbeats 1000000
namespace Go.Sh
open Go Data
namespace D
end D
end Go.Sh
set_option linter.unusedVariables false
set_option linter.unusedSimpArgs false
set_option synthInstance.maxSize 100000
set_option maxHeartbeats 1000000
namespace Go.Sh
open Go Data
namespace D
end D
end Go.Sh
set_option linter.unusedVariables false
set_option linter.unusedSimpArgs false
set_option synthInstance.maxSize 100000
set_option maxHeartbeats 1000000
namespace Go.Sh
open Go Data
namespace D
/-! ### Ranges of lists -/
theorem impl_allIn_is {l : List Int} (h : l.length ≤ 4611686018427387904) (a b : Int) : impl_allIn l a b = some (l.all fun x => decide (a ≤ x ∧ x ≤ b)) := by
  refine loop_all l (fun k => ((k : Nat) : Int)) (fun x => decide (a ≤ x ∧ x ≤ b)) (fun k hk => ?_) ?_
  · have h0 : (0 : Int) ≤ (k : Int) := by omega
    have h1 : (k : Int) < (l.length : Int) := by omega
    simp only [ite_if]; simp only [lt_d, len_d, cond_dec, h0, h1, if_true, rd_at l k hk, impl_InRange_is, bind_some', not_d, next_id hk (by omega), decide_eq_true_eq]
    by_cases c : a ≤ l[k] ∧ l[k] ≤ b
    · rw [if_neg (by simpa using c), if_pos c]
    · rw [if_pos c, if_neg c]
  · simp only [lt_d, len_d, cond_dec]; rw [if_neg (by omega)]

theorem spec_l5Bytes_is {l : List Int} (h : l.length ≤ 4611686018427387904) : spec_l5Bytes l = some (l.all fun x => decide (0 ≤ x ∧ x ≤ 255)) := by
  refine loop_all l (fun k => ((k : Nat) : Int)) (fun x => decide (0 ≤ x ∧ x ≤ 255)) (fun k hk => ?_) ?_
  · have h0 : (0 : Int) ≤ (k : Int) := by omega
    have h1 : (k : Int) < (l.length : Int) := by omega
    simp only [ite_if]; simp only [lt_d, len_d, cond_dec, h0, h1, if_true, rd_at l k hk, spec_l1In_is, bind_some', not_d, next_id hk (by omega), decide_eq_true_eq]
    by_cases c : 0 ≤ l[k] ∧ l[k] ≤ 255
    · rw [if_neg (by simpa using c), if_pos c]
    · rw [if_pos c, if_neg c]
  · simp only [lt_d, len_d, cond_dec]; rw [if_neg (by omega)]

/-! ### Addresses, resources, captures -/
def addrP (a : Address) : Bool := decide (1 ≤ a.1 ∧ a.1 ≤ 9) && decide (0 ≤ a.2.1 ∧ a.2.1 ≤ 99) && decide (0 ≤ a.2.2 ∧ a.2.2 ≤ 99)

theorem spec_IsAddress_is (a : Address) : spec_IsAddress a = some (addrP a) := by
  unfold spec_IsAddress addrP
  simp only [spec_l1In_is, bind_some']
  cases decide (1 ≤ a.1 ∧ a.1 ≤ 9) <;> cases decide (0 ≤ a.2.1 ∧ a.2.1 ≤ 99) <;> simp

theorem impl_IsAddress_is (a : Address) : impl_IsAddress a = some (addrP a) := by
  unfold impl_IsAddress addrP
  simp only [impl_InRange_is, bind_some']
  cases decide (1 ≤ a.1 ∧ a.1 ≤ 9) <;> cases decide (0 ≤ a.2.1 ∧ a.2.1 ≤ 99) <;> simp

def bytesP (l : List Int) : Bool := l.all fun x => decide (0 ≤ x ∧ x ≤ 255)

def resP (r : Resource) : Bool :=
  if r.1 = 1 ∨ r.1 = 2 then decide (r.2.1.length ≤ 6) && bytesP r.2.1 && decide (r.2.2 = (0, 0, 0))
  else if r.1 = 3 then decide (r.2.1 = []) && addrP r.2.2
  else if r.1 = 4 then decide (r.2.1 = []) && decide (r.2.2 = (0, 0, 0)) else false

theorem zero_addr (a : Address) : N.both (N.eq a.1 0) (N.both (N.eq a.2.1 0) (N.eq a.2.2 0)) = decide (a = (0, 0, 0)) := addr_eq a (0, 0, 0)

theorem len_zero (l : List Int) : N.eq (N.len l) 0 = decide (l = []) := by
  rw [eq_d, len_d]; cases l <;> simp; omega

theorem impl_IsResource_is {r : Resource} (h : r.2.1.length ≤ 4611686018427387904) : impl_IsResource r = some (resP r) := by
  unfold impl_IsResource resP bytesP
  simp only [impl_allIn_is h, impl_IsAddress_is, bind_some', zero_addr, len_zero]
  simp only [eq_d, le_d, len_d, cond_dec]
  by_cases c1 : r.1 = 1
  · simp only [c1, if_true, true_or]
    by_cases c5 : r.2.1.length ≤ 6
    · rw [if_pos (by omega)]
      cases r.2.1.all fun x => decide (0 ≤ x ∧ x ≤ 255) <;> simp [c5]
    · rw [if_neg (by omega)]; simp [c5]
  · rw [if_neg c1]
    by_cases c2 : r.1 = 2
    · simp only [c2, if_true, or_true]
      by_cases c5 : r.2.1.length ≤ 6
      · rw [if_pos (by omega)]
        cases r.2.1.all fun x => decide (0 ≤ x ∧ x ≤ 255) <;> simp [c5]
      · rw [if_neg (by omega)]; simp [c5]
    · simp only [c1, c2, if_false, or_self]
      by_cases c3 : r.1 = 3
      · simp only [c3, if_true]
        by_cases c6 : r.2.1 = [] <;> simp [c6]
      · simp only [c3, if_false]
        by_cases c4 : r.1 = 4
        · simp only [c4, if_true]
          by_cases c6 : r.2.1 = [] <;> simp [c6]
        · simp only [c4, if_false]

theorem spec_IsResource_is {r : Resource} (h : r.2.1.length ≤ 4611686018427387904) : spec_IsResource r = some (resP r) := by
  unfold spec_IsResource resP bytesP
  simp only [spec_l5Bytes_is h, spec_IsAddress_is, spec_l1In_is, bind_some', zero_addr, len_zero]
  simp only [eq_d, ne_d, gt_d, len_d, cond_not, cond_dec]
  have e6 : r.2.1 = [] → (r.2.1.all fun x => decide (0 ≤ x ∧ x ≤ 255)) = true := fun e => by rw [e]; rfl
  have e7 : r.2.1 = [] → r.2.1.length = 0 := fun e => by rw [e]; rfl
  have e8 : r.2.1.length > 6 → ¬ r.2.1 = [] := fun e h => by rw [h] at e; simp at e
  by_cases c0 : 1 ≤ r.1 ∧ r.1 ≤ 4
  · rw [if_pos c0]
    rcases (show r.1 = 1 ∨ r.1 = 2 ∨ r.1 = 3 ∨ r.1 = 4 by omega) with c | c | c | c
    · cases hc : r.2.1.all fun x => decide (0 ≤ x ∧ x ≤ 255)
      · simp [c]
      · by_cases c5 : r.2.1.length ≤ 6
        · rw [cond_true, if_neg (by omega)]; by_cases hz : r.2.2 = (0, 0, 0) <;> simp [c, c5, hz]
        · rw [cond_true, if_pos (by omega)]; simp [c, c5]
    · cases hc : r.2.1.all fun x => decide (0 ≤ x ∧ x ≤ 255)
      · simp [c]
      · by_cases c5 : r.2.1.length ≤ 6
        · rw [cond_true, if_neg (by omega)]; by_cases hz : r.2.2 = (0, 0, 0) <;> simp [c, c5, hz]
        · rw [cond_true, if_pos (by omega)]; simp [c, c5]
    · by_cases c6 : r.2.1 = []
      · rw [e6 c6, cond_true, if_neg (by rw [e7 c6]; omega)]; simp [c, c6]
        cases addrP r.2.2 <;> simp
      · cases hc : r.2.1.all fun x => decide (0 ≤ x ∧ x ≤ 255)
        · simp [c, c6]
        · by_cases c5 : r.2.1.length ≤ 6
          · rw [cond_true, if_neg (by omega)]; simp [c, c6]
            cases addrP r.2.2 <;> simp
          · rw [cond_true, if_pos (by omega)]; simp [c, c6]
    · by_cases c6 : r.2.1 = []
      · rw [e6 c6, cond_true, if_neg (by rw [e7 c6]; omega)]; by_cases hz : r.2.2 = (0, 0, 0) <;> simp [c, c6, hz]
      · cases hc : r.2.1.all fun x => decide (0 ≤ x ∧ x ≤ 255)
        · simp [c, c6]
        · by_cases c5 : r.2.1.length ≤ 6
          · rw [cond_true, if_neg (by omega)]; simp [c, c6]
          · rw [cond_true, if_pos (by omega)]; simp [c, c6]
  · rw [if_neg c0]
    rw [if_neg (by omega), if_neg (by omega), if_neg (by omega)]

end D
end Go.Sh
set_option linter.unusedVariables false
set_option linter.unusedSimpArgs false
set_option synthInstance.maxSize 100000
set_option maxHeartbeats 1000000
namespace Go.Sh
open Go Data
theorem find_all {α : Type} (xs : List α) (p : α → Bool) (q : Bool) : ((xs.findSome? fun x => if p x = true then none else some false).getD q) = (xs.all p && q) := by
  induction xs with
  | nil => simp
  | cons y ys ih =>
    rw [List.findSome?_cons, List.all_cons]
    cases hb : p y
    · simp
    · simpa using ih

namespace D
end D
end Go.Sh
set_option linter.unusedVariables false
set_option linter.unusedSimpArgs false
set_option synthInstance.maxSize 100000
set_option maxHeartbeats 1000000
namespace Go.Sh
open Go Data
theorem nilc_same {α : Type} {x : List α} {y : Option (List α)} (h : y = some x) : N.nilc (N.isE x) (some []) y = some x := by
  unfold N.nilc
  subst h
  cases x with
  | nil => simp [N.isE]
  | cons a x => simp [N.isE]

namespace D
/-! ## Copies -/
theorem slices_Clone_int_is {l : List Int} (h : l.length ≤ 100000000) : slices_Clone_int l = some l := by
  unfold slices_Clone_int
  refine nilc_same ?_
  rw [nite_pos (fitsN (by simpa using h) (by omega))]; simp [N.app]

theorem impl_copyResource_is {r : Resource} (h : ok r) : impl_copyResource r = some (r.1, r.2.1, r.2.2.1, r.2.2.2.1, r.2.2.2.2) := by
  have := h.2.1.1
  unfold impl_copyResource
  rw [slices_Clone_int_is (by omega)]; rfl

end D
end Go.Sh
set_option linter.unusedVariables false
set_option linter.unusedSimpArgs false
set_option synthInstance.maxSize 100000
set_option maxHeartbeats 1000000
namespace Go.Sh
open Go Data
/-! ## What is drawn: it comes back, and keeps its bounds -/
def Gets {α : Type} (P : α → Prop) (r : Option α) : Prop := ∃ x, r = some x ∧ P x

section
variable {α β S R : Type} {P : α → Prop} {Q : R → Prop}
theorem Gets.pure {x : R} (h : Q x) : Gets Q (some x) := ⟨x, rfl, h⟩

theorem Gets.bind {x : Option α} {f : α → Option R} (h : Gets P x) (hf : ∀ a, P a → Gets Q (f a)) : Gets Q (N.bind x f) := by
  obtain ⟨a, rfl, ha⟩ := h; exact hf a ha

theorem Gets.cond {b : Bool} {x y : Option R} (h1 : b = true → Gets Q x) (h2 : b = false → Gets Q y) : Gets Q (N.cond b x y) := by
  unfold N.cond; cases b
  · exact h2 rfl
  · exact h1 rfl

theorem Gets.ite {c : Prop} [Decidable c] {x y : Option R} (hc : c) (h : Gets Q x) : Gets Q (N.ite c x y) := by rw [nite_pos hc]; exact h

theorem Gets.nite {c : Prop} [Decidable c] {x y : Option R} (hc : ¬ c) (h : Gets Q y) : Gets Q (N.ite c x y) := by rw [nite_neg hc]; exact h

theorem Gets.let_ {x : α} {f : α → Option R} (h : Gets Q (f x)) : Gets Q (N.let_ x f) := h

theorem Gets.mono {Q' : R → Prop} {x : Option R} (h : Gets Q x) (hq : ∀ a, Q a → Q' a) : Gets Q' x := by
  obtain ⟨a, e, ha⟩ := h; exact ⟨a, e, hq a ha⟩

theorem Gets.loop {step : S → Option (S ⊕ R)} (I : S → Prop) (m : S → Nat)
    (hs : ∀ s, I s → Gets (fun r => match r with | .inl s' => I s' ∧ m s' < m s | .inr r => Q r) (step s)) (s : S) (h : I s) : Gets Q (loopF step s) := by
  generalize hn : m s = n
  induction n using Nat.strongRecOn generalizing s with
  | ind n ih =>
    obtain ⟨r, e, hr⟩ := hs s h
    cases r with
    | inl s' => rw [loopF_inl e]; exact ih (m s') (by rw [← hn]; exact hr.2) s' hr.1 rfl
    | inr r => exact ⟨r, loopF_inr e, hr⟩

end
theorem wrap_in (n : Int) : -9223372036854775808 ≤ IntKind.i64.wrap n ∧ IntKind.i64.wrap n < 9223372036854775808 := by
  have e1 : ((2 : Int) ^ IntKind.i64.bits) = 18446744073709551616 := by decide
  have e2 : ((2 : Int) ^ (IntKind.i64.bits - 1)) = 9223372036854775808 := by decide
  have e3 : IntKind.i64.signed = true := rfl
  unfold IntKind.wrap
  rw [e1, e2, e3]
  simp only [Bool.true_and, decide_eq_true_eq]
  split <;> omega

theorem ok_add (a b : Int) : ok (N.add .i64 a b) := wrap_in _

theorem ok_num {x : Int} (h1 : -9223372036854775808 ≤ x) (h2 : x < 9223372036854775808) : ok x := ⟨h1, h2⟩

theorem ok_below {x n : Int} (h : 0 ≤ x ∧ x < n) (hn : n ≤ 1000000000) : ok x := ⟨by omega, by omega⟩

theorem and_255 (a : Int) : 0 ≤ N.and .i64 a 255 ∧ N.and .i64 a 255 ≤ 255 := by
  have h : (BitVec.ofInt 64 a &&& BitVec.ofInt 64 255).toNat ≤ 255 := by
    rw [BitVec.toNat_and]; exact Nat.and_le_right
  have e : N.and .i64 a 255 = (((BitVec.ofInt 64 a &&& BitVec.ofInt 64 255).toNat : Nat) : Int) := by
    show IntKind.i64.wrap _ = _
    exact wrap_id (by show _ ≤ (((BitVec.ofInt 64 a &&& BitVec.ofInt 64 255).toNat : Nat) : Int); omega) (by show (((BitVec.ofInt 64 a &&& BitVec.ofInt 64 255).toNat : Nat) : Int) < _; omega)
  rw [e]; omega

def few {α : Type} [Data α] (n : Nat) (xs : List α) : Prop := xs.length ≤ n ∧ ∀ x ∈ xs, ok x

theorem few.ok {α : Type} [Data α] {n : Nat} {xs : List α} (h : few n xs) (hn : n ≤ 1048576) : ok xs := ⟨Nat.le_trans h.1 hn, h.2⟩

theorem few.app {α : Type} [Data α] {n m : Nat} {xs : List α} {x : α} (h : few n xs) (hx : Data.ok x) (hm : n + 1 ≤ m) : few m (N.app xs [x]) :=
  ⟨by have := h.1; simp [N.app]; omega, fun y hy => by
    rcases List.mem_append.1 hy with hy | hy
    · exact h.2 y hy
    · simp at hy; subst hy; exact hx⟩

theorem few.set {α : Type} [Data α] {n : Nat} {xs : List α} {x : α} {i : Int} (h : few n xs) (hx : Data.ok x) : few n (N.set xs i x) :=
  ⟨by have := h.1; simp [N.set]; omega, fun y hy => by
    rcases List.mem_or_eq_of_mem_set hy with hy | hy
    · exact h.2 y hy
    · subst hy; exact hx⟩

theorem few.rd {α : Type} [Data α] {n : Nat} {xs : List α} {i : Int} {d : α} (h : few n xs) (hd : Data.ok d) : Data.ok (N.rd xs i d) := by
  unfold N.rd
  rw [List.getD_eq_getElem?_getD]
  cases e : xs[i.toNat]? with
  | none => exact hd
  | some x => exact h.2 x (List.mem_of_getElem? e)

theorem few.nil {α : Type} [Data α] {n : Nat} : few n ([] : List α) := ⟨by simp, fun _ h => by cases h⟩

/-- count-down loops that add one element each -/
theorem Gets.fill {α C : Type} [Data α] {step : List α × Int × C → Option ((List α × Int × C) ⊕ (List α × C))} {K : C → Prop} {m : Nat} (hm : m ≤ 1000)
    (hs : ∀ xs n c, K c → 0 < n → n ≤ 1000 → few m xs → Gets (fun r => ∃ x c', r = .inl (N.app xs [x], N.sub .i64 n 1, c') ∧ ok x ∧ K c') (step (xs, n, c)))
    (he : ∀ xs n c, n ≤ 0 → step (xs, n, c) = some (.inr (xs, c))) {n : Int} {c : C} (hn0 : 0 ≤ n) (hn : n ≤ m) (hc : K c) :
    Gets (fun r => few m r.1 ∧ K r.2) (loopF step ([], n, c)) := by
  refine Gets.loop (I := fun s => (s.1.length : Int) + s.2.1 ≤ m ∧ 0 ≤ s.2.1 ∧ (∀ x ∈ s.1, ok x) ∧ K s.2.2) (m := fun s => s.2.1.toNat) (fun s h => ?_) _ ⟨by simpa using hn, hn0, fun _ h => (by cases h), hc⟩
  obtain ⟨xs, n, c⟩ := s
  obtain ⟨h1, h2, h3, h4⟩ := h
  simp only at h1 h2 h3 h4
  by_cases hn : 0 < n
  · obtain ⟨r, e, x, c', rfl, hx, hk⟩ := hs xs n c h4 hn (by omega) ⟨by omega, h3⟩
    refine ⟨_, e, ?_⟩
    have e1 : N.sub .i64 n 1 = n - 1 := sub_id (by omega) (by omega)
    simp only [e1]
    refine ⟨⟨by simp [N.app]; omega, by omega, ?_, hk⟩, by omega⟩
    exact (few.app (n := xs.length) ⟨Nat.le_refl _, h3⟩ hx (Nat.le_refl _)).2
  · exact ⟨_, he xs n c (by omega), ⟨by simp only; omega, h3⟩, h4⟩

namespace D
/-! ## The source of bytes -/
def curOk (c : l1Cur) : Prop := 0 ≤ c.2.1 ∧ c.2.1 ≤ (c.1.length : Int) ∧ c.1.length ≤ 1048576

theorem spec_l1New_is {x : List Int} (h : x.length ≤ 1048576) : Gets curOk (spec_l1New x) := by
  refine Gets.loop (I := fun s => 0 ≤ s.2) (m := fun s => x.length - s.2.toNat) (fun s hs => ?_) _ (by show (0 : Int) ≤ 0; omega)
  obtain ⟨a, i⟩ := s
  simp only at hs
  refine Gets.cond (fun h1 => Gets.cond (fun h2 => Gets.ite hs (Gets.ite ?_ (Gets.pure ?_))) fun _ => Gets.pure ⟨by simp only; omega, by simp only; omega, h⟩) fun _ => Gets.pure ⟨by simp only; omega, by simp only; omega, h⟩
  · simpa [N.lt] using h1
  · simp only [lt_d, len_d, decide_eq_true_eq] at h1
    have e : N.add .i64 i 1 = i + 1 := add_id (by omega) (by omega)
    simp only [e]; omega

theorem spec_l1Byte_is {c : l1Cur} (h : curOk c) : Gets (fun r => (0 ≤ r.1 ∧ r.1 ≤ 255) ∧ curOk r.2) (spec_l1Byte c) := by
  obtain ⟨xs, i, s⟩ := c
  obtain ⟨h1, h2, h3⟩ := h
  simp only at h1 h2 h3
  refine Gets.cond (fun h4 => Gets.ite h1 (Gets.ite ?_ (Gets.pure ⟨and_255 _, ?_⟩))) fun _ => Gets.pure ⟨and_255 _, h1, h2, h3⟩
  · simpa [N.lt] using h4
  · simp only [lt_d, len_d, decide_eq_true_eq] at h4
    have e : N.add .i64 i 1 = i + 1 := add_id (by omega) (by omega)
    refine ⟨?_, ?_, h3⟩ <;> simp only [e] <;> omega

theorem spec_l1Below_is {c : l1Cur} (h : curOk c) {n : Int} (h0 : 0 < n) : Gets (fun r => (0 ≤ r.1 ∧ r.1 < n) ∧ curOk r.2) (spec_l1Below c n) := by
  refine Gets.cond (fun h1 => ?_) fun _ => Gets.cond (fun _ => ?_) fun _ => ?_
  · simp only [le_d, decide_eq_true_eq] at h1; omega
  · refine Gets.bind (spec_l1Byte_is h) fun r ⟨h1, h2⟩ => Gets.nite (by omega) (Gets.pure ⟨?_, h2⟩)
    simp only [rem_pos h1.1]; exact ⟨Int.emod_nonneg _ (by omega), Int.emod_lt_of_pos _ h0⟩
  · refine Gets.bind (spec_l1Byte_is h) fun r ⟨h1, h2⟩ => Gets.bind (spec_l1Byte_is h2) fun r3 ⟨h3, h4⟩ => Gets.bind (spec_l1Byte_is h4) fun r4 ⟨h5, h6⟩ => Gets.nite (by omega) (Gets.pure ⟨?_, h6⟩)
    have e1 : N.mul .i64 r.1 65536 = r.1 * 65536 := mul_id (by omega) (by omega)
    have e2 : N.mul .i64 r3.1 256 = r3.1 * 256 := mul_id (by omega) (by omega)
    have e3 : N.add .i64 (r.1 * 65536) (r3.1 * 256) = r.1 * 65536 + r3.1 * 256 := add_id (by omega) (by omega)
    have e4 : N.add .i64 (r.1 * 65536 + r3.1 * 256) r4.1 = r.1 * 65536 + r3.1 * 256 + r4.1 := add_id (by omega) (by omega)
    simp only [e1, e2, e3, e4]
    rw [rem_pos (by omega)]
    exact ⟨Int.emod_nonneg _ (by omega), Int.emod_lt_of_pos _ h0⟩

theorem spec_l1Int_is {c : l1Cur} (h : curOk c) {l : List Int} (hl : 0 < l.length) (hk : ∀ x ∈ l, ok x) : Gets (fun r => (ok r.1 ∧ r.1 ∈ l) ∧ curOk r.2) (spec_l1Int c l) := by
  refine Gets.bind (spec_l1Below_is h (n := N.len l) (by rw [len_d]; omega)) fun r ⟨⟨h1, h2⟩, h3⟩ => Gets.ite h1 (Gets.ite h2 (Gets.pure ⟨?_, h3⟩))
  rw [len_d] at h2
  have e : r.1 = ((r.1.toNat : Nat) : Int) := by omega
  have hm : N.rd l r.1 0 ∈ l := by rw [e, rd_at l r.1.toNat (by omega)]; exact List.getElem_mem _
  exact ⟨hk _ hm, hm⟩

/-! ## Addresses and resources -/
theorem spec_l4Draw_is {c : l1Cur} (h : curOk c) : Gets (fun r => ok r.1 ∧ curOk r.2) (spec_l4Draw c) :=
  Gets.bind (spec_l1Below_is h (by omega)) fun r ⟨h1, h2⟩ => Gets.bind (spec_l1Below_is h2 (by omega)) fun r3 ⟨h3, h4⟩ => Gets.bind (spec_l1Below_is h4 (by omega)) fun r4 ⟨h5, h6⟩ =>
    Gets.pure ⟨⟨ok_add _ _, ok_below h3 (by omega), ok_below h5 (by omega)⟩, h6⟩

theorem spec_l4Raw_is {c : l1Cur} (h : curOk c) : Gets (fun r => ok r.1 ∧ curOk r.2) (spec_l4Raw c) :=
  Gets.bind (spec_l1Int_is h (by simp) (by simp [ok])) fun r ⟨h1, h2⟩ => Gets.pure ⟨h1.1, h2⟩

theorem spec_l4Any_is {c : l1Cur} (h : curOk c) : Gets (fun r => ok r.1 ∧ curOk r.2) (spec_l4Any c) := by
  refine Gets.bind (spec_l4Draw_is h) fun r ⟨⟨a1, a2, a3⟩, h2⟩ => Gets.bind (spec_l1Below_is h2 (by omega)) fun r2 ⟨h3, h4⟩ => ?_
  refine Gets.cond (fun _ => ?_) fun _ => Gets.cond (fun _ => ?_) fun _ => Gets.cond (fun _ => ?_) fun _ => Gets.pure ⟨⟨a1, a2, a3⟩, h4⟩
  all_goals exact Gets.bind (spec_l4Raw_is h4) fun r5 ⟨h5, h6⟩ => Gets.pure ⟨⟨by assumption, by assumption, by assumption⟩, h6⟩

theorem spec_l5Body_is {c : l1Cur} (h : curOk c) : Gets (fun r => few 5 r.1 ∧ curOk r.2) (spec_l5Body c) := by
  refine Gets.bind (spec_l1Below_is h (n := 5) (by omega)) fun r ⟨h1, h2⟩ => ?_
  refine Gets.fill (K := curOk) (m := 5) (by omega) (fun xs n c hc h0 h9 hx => ?_) (fun xs n c hn => ?_) h1.1 (by omega) h2
  · refine Gets.cond (fun _ => ?_) fun hf => ?_
    · refine Gets.bind (spec_l1Below_is hc (n := 9) (by omega)) fun r2 ⟨h3, h4⟩ => Gets.ite (fitsN (by have := hx.1; simp; omega) (by omega)) (Gets.pure ⟨_, _, rfl, ok_num (by omega) (by omega), h4⟩)
    · simp only [gt_d, decide_eq_false_iff_not] at hf; omega
  · simp only [gt_d, cond_dec]; rw [if_neg (by omega)]

def resOk (r : Int × List Int × Int × Int × Int × l1Cur) : Prop := (ok r.1 ∧ few 7 r.2.1 ∧ ok r.2.2.1 ∧ ok r.2.2.2.1 ∧ ok r.2.2.2.2.1) ∧ curOk r.2.2.2.2.2

theorem few.mono {α : Type} [Data α] {n m : Nat} {xs : List α} (h : few n xs) (hm : n ≤ m) : few m xs := ⟨Nat.le_trans h.1 hm, h.2⟩

theorem spec_l5Draw_is {c : l1Cur} (h : curOk c) : Gets (fun r => (ok r.1 ∧ few 5 r.2.1 ∧ ok r.2.2.1 ∧ ok r.2.2.2.1 ∧ ok r.2.2.2.2.1) ∧ curOk r.2.2.2.2.2) (spec_l5Draw c) := by
  have z : ∀ n : Int, 0 ≤ n → n ≤ 9 → ok n := fun n h1 h2 => ok_num (by omega) (by omega)
  refine Gets.bind (spec_l1Below_is h (by omega)) fun r ⟨h1, h2⟩ => Gets.cond (fun _ => ?_) fun _ => Gets.cond (fun _ => Gets.pure ⟨⟨z 4 (by omega) (by omega), few.nil, z 0 (by omega) (by omega), z 0 (by omega) (by omega), z 0 (by omega) (by omega)⟩, h2⟩) fun _ => ?_
  · exact Gets.bind (spec_l4Draw_is h2) fun r ⟨⟨a1, a2, a3⟩, h3⟩ => Gets.pure ⟨⟨z 3 (by omega) (by omega), few.nil, a1, a2, a3⟩, h3⟩
  · exact Gets.bind (spec_l1Below_is h2 (by omega)) fun r3 ⟨h3, h4⟩ => Gets.bind (spec_l5Body_is h4) fun r4 ⟨h5, h6⟩ => Gets.pure ⟨⟨ok_add _ _, h5, z 0 (by omega) (by omega), z 0 (by omega) (by omega), z 0 (by omega) (by omega)⟩, h6⟩

theorem spec_l5Any_is {c : l1Cur} (h : curOk c) : Gets resOk (spec_l5Any c) := by
  refine Gets.bind (spec_l5Draw_is h) fun r ⟨⟨a1, a2, a3, a4, a5⟩, h2⟩ => Gets.bind (spec_l1Below_is h2 (by omega)) fun r2 ⟨h3, h4⟩ => ?_
  have b2 := few.mono a2 (show 5 ≤ 7 by omega)
  refine Gets.cond (fun _ => ?_) fun _ => Gets.cond (fun _ => ?_) fun _ => Gets.cond (fun _ => ?_) fun _ => Gets.cond (fun _ => ?_) fun _ => Gets.pure ⟨⟨a1, b2, a3, a4, a5⟩, h4⟩
  · exact Gets.bind (spec_l1Int_is h4 (by simp) (by simp [ok])) fun r3 ⟨h5, h6⟩ => Gets.pure ⟨⟨h5.1, b2, a3, a4, a5⟩, h6⟩
  · exact Gets.bind (spec_l1Int_is h4 (by simp) (by simp [ok])) fun r3 ⟨h5, h6⟩ => Gets.ite (fitsN (by have := a2.1; simp; omega) (by omega)) (Gets.pure ⟨⟨a1, few.app a2 h5.1 (by omega), a3, a4, a5⟩, h6⟩)
  · exact Gets.pure ⟨⟨a1, ⟨by simp, by simp [ok]⟩, a3, a4, a5⟩, h4⟩
  · exact Gets.bind (spec_l4Any_is h4) fun r3 ⟨⟨h5, h6, h7⟩, h8⟩ => Gets.pure ⟨⟨a1, b2, h5, h6, h7⟩, h8⟩

end D
end Go.Sh
set_option linter.unusedVariables false
set_option linter.unusedSimpArgs false
set_option synthInstance.maxSize 100000
set_option maxHeartbeats 2000000
namespace Go.Sh
open Go Data
namespace D
end D
end Go.Sh
set_option linter.unusedVariables false
set_option linter.unusedSimpArgs false
set_option synthInstance.maxSize 100000
set_option maxHeartbeats 2000000
namespace Go.Sh
open Go Data
namespace D
theorem spec_l1Once_is {c : l1Cur} (h : curOk c) {n : Int} (h0 : 0 < n) : Gets (fun r => curOk r.2) (spec_l1Once c n) :=
  Gets.bind (spec_l1Below_is h h0) fun r ⟨_, h2⟩ => Gets.pure h2

end D
end Go.Sh
set_option linter.unusedVariables false
set_option linter.unusedSimpArgs false
set_option synthInstance.maxSize 100000
set_option maxHeartbeats 4000000
namespace Go.Sh
open Go Data
namespace D
end D
end Go.Sh
set_option linter.unusedVariables false
set_option linter.unusedSimpArgs false
set_option synthInstance.maxSize 100000
set_option maxHeartbeats 4000000
namespace Go.Sh
open Go Data
namespace D
/-! ## Scripts -/
def opP (o : Op) : Bool := decide (0 ≤ o.2.1 ∧ o.2.1 ≤ 3) &&
  (if o.1 = 1 then decide (1 ≤ o.2.2.1 ∧ o.2.2.1 ≤ 9) && decide (0 ≤ o.2.2.2 ∧ o.2.2.2 ≤ 99)
   else if o.1 = 2 ∨ o.1 = 3 ∨ o.1 = 4 then decide (o.2.2.1 = 0) && decide (o.2.2.2 = 0)
   else if o.1 = 5 then decide (0 ≤ o.2.2.1 ∧ o.2.2.1 ≤ 3) && decide (0 ≤ o.2.2.2 ∧ o.2.2.2 ≤ 3)
   else if o.1 = 6 then decide (0 ≤ o.2.2.1 ∧ o.2.2.1 ≤ 3) && decide (o.2.2.2 = 0)
   else if o.1 = 7 then decide (1 ≤ o.2.2.1 ∧ o.2.2.1 ≤ 3) && decide (o.2.2.2 = 0)
   else if o.1 = 8 ∨ o.1 = 9 then decide (0 ≤ o.2.2.1 ∧ o.2.2.1 ≤ 2) && decide (o.2.2.2 = 0)
   else false)

theorem and_cond (p q : Prop) [Decidable p] [Decidable q] : (if p then some (decide q) else some false) = some (decide p && decide q) := by by_cases h : p <;> simp [h]

theorem spec_l10Ok_is (o : Op) : spec_l10Ok o = some (opP o) := by
  obtain ⟨k, r, a, b⟩ := o
  unfold spec_l10Ok opP
  simp only [spec_l1In_is, bind_some', not_d, eq_d, cond_dec, and_cond]
  by_cases h0 : 0 ≤ r ∧ r ≤ 3
  · rw [if_neg (by simpa using h0)]
    simp only [h0, and_self, decide_true, Bool.true_and]
    by_cases h1 : k = 1
    · simp [h1]
    by_cases h2 : k = 2
    · simp [h2]
    by_cases h3 : k = 3
    · simp [h3]
    by_cases h4 : k = 4
    · simp [h4]
    by_cases h5 : k = 5
    · simp [h5]
    by_cases h6 : k = 6
    · simp [h6]
    by_cases h7 : k = 7
    · simp [h7]
    by_cases h8 : k = 8
    · simp [h8]
    by_cases h9 : k = 9
    · simp [h9]
    simp [h1, h2, h3, h4, h5, h6, h7, h8, h9]
  · rw [if_pos h0]; simp only [h0, decide_false, Bool.false_and]

theorem at_in (a : Int) (n m : Int) (h : m = n + 1) : impl_at a m = spec_l1In a 0 n := by
  rw [impl_at_is, spec_l1In_is, h]; congr 1; exact decide_eq_decide.2 (by omega)

theorem inRange_in (a b c : Int) : impl_InRange a b c = spec_l1In a b c := by rw [impl_InRange_is, spec_l1In_is]

theorem impl_isOp_is (o : Op) : impl_isOp o = some (opP o) := by
  rw [← spec_l10Ok_is]
  unfold impl_isOp spec_l10Ok
  simp only [at_in _ 3 4 (by omega), at_in _ 2 3 (by omega), inRange_in]

def scriptP (l : List Op) : Bool := decide (l.length ≤ 16) && l.all opP

theorem spec_IsScript_is {l : List Op} (h : l.length ≤ 4611686018427387904) : spec_IsScript l = some (scriptP l) := by
  refine (loop_find l (fun k => ((k : Nat) : Int)) (fun o => if opP o = true then none else some false) (decide (l.length ≤ 16)) (fun k hk => ?_) ?_).trans ?_
  · have h0 : (0 : Int) ≤ (k : Int) := by omega
    have h1 : (k : Int) < (l.length : Int) := by omega
    simp only [ite_if]; simp only [lt_d, len_d, cond_dec, h0, h1, if_true, rd_at l k hk, spec_l10Ok_is, bind_some', not_b, next_id hk (by omega)]
    cases opP l[k] <;> rfl
  · simp only [lt_d, le_d, len_d, cond_dec]; rw [if_neg (by omega)]; congr 2; exact decide_eq_decide.2 (by omega)
  · rw [find_all, Bool.and_comm]; rfl

theorem not_any {α : Type} (l : List α) (p : α → Bool) : (!l.any fun x => !p x) = l.all p := by
  induction l with
  | nil => rfl
  | cons x l ih => rw [List.any_cons, List.all_cons, ← ih]; cases p x <;> simp

theorem impl_IsScript_is {l : List Op} (h : l.length ≤ 4611686018427387904) : impl_IsScript l = some (scriptP l) := by
  have e : slices_ContainsFunc_Op_impl_IsScript_1 l = some (l.any fun o => !opP o) := by
    unfold slices_ContainsFunc_Op_impl_IsScript_1
    rw [show slices_IndexFunc_Op_impl_IsScript_1 l = some (if (l.any fun o => !opP o) = true then (l.findIdx fun o => !opP o : Int) else -1) from by
      refine loop_index l (fun k => ((k : Nat) : Int)) (fun o => !opP o) (fun k hk => ?_) ?_
      · have h0 : (0 : Int) ≤ (k : Int) := by omega
        have h1 : (k : Int) < (l.length : Int) := by omega
        simp only [ite_if]; simp only [lt_d, len_d, cond_dec, h0, h1, if_true, rd_at l k hk, impl_IsScript_1, impl_isOp_is, bind_some', not_b, next_id hk (by omega)]
        cases opP l[k] <;> rfl
      · simp only [lt_d, len_d, cond_dec]; rw [if_neg (by omega)], bind_some', ge_d]
    cases (l.any fun o => !opP o) <;> simp
  unfold impl_IsScript scriptP
  rw [e, bind_some', not_b, not_any, le_d, len_d, cond_dec]
  by_cases h16 : l.length ≤ 16
  · rw [if_pos (by omega)]; simp [h16]
  · rw [if_neg (by omega)]; simp [h16]

/-! ## Entries -/
theorem spec_Asks_is (k : Int) : spec_Asks k = some (decide (1 ≤ k ∧ k ≤ 4)) := by unfold spec_Asks; rw [spec_l1In_is]; rfl

theorem impl_Asks_is (k : Int) : impl_Asks k = some (decide (1 ≤ k ∧ k ≤ 4)) := by unfold impl_Asks; rw [impl_InRange_is]; rfl

def entryP (e : Entry) : Bool := decide (1 ≤ e.1 ∧ e.1 ≤ 4) && decide (0 ≤ e.2.2 ∧ e.2.2 ≤ 999) && (if e.1 = 1 then addrP e.2.1 else decide (e.2.1 = (0, 0, 0)))

def entriesP (l : List Entry) : Bool := decide (l.length ≤ 16) && l.all entryP

theorem impl_AreEntries_1_is (e : Entry) : impl_AreEntries_1 e = some (!entryP e) := by
  obtain ⟨a, b, c⟩ := e
  unfold impl_AreEntries_1 entryP
  simp only [zero_addr]
  simp only [impl_IsAddress_is, impl_Asks_is, impl_InRange_is, bind_some', not_d, not_b, eq_d, cond_dec]
  by_cases c1 : 1 ≤ a ∧ a ≤ 4 <;> by_cases c2 : 0 ≤ c ∧ c ≤ 999 <;> by_cases c3 : a = 1 <;> by_cases c4 : b = (0, 0, 0) <;> cases c5 : addrP b <;> simp [c1, c2, c3, c4, c5] <;> omega

theorem impl_AreEntries_is {l : List Entry} (h : l.length ≤ 4611686018427387904) : impl_AreEntries l = some (entriesP l) := by
  have e : slices_ContainsFunc_Entry_impl_AreEntries_1 l = some (l.any fun o => !entryP o) := by
    unfold slices_ContainsFunc_Entry_impl_AreEntries_1
    rw [show slices_IndexFunc_Entry_impl_AreEntries_1 l = some (if (l.any fun o => !entryP o) = true then (l.findIdx fun o => !entryP o : Int) else -1) from by
      refine loop_index l (fun k => ((k : Nat) : Int)) (fun o => !entryP o) (fun k hk => ?_) ?_
      · have h0 : (0 : Int) ≤ (k : Int) := by omega
        have h1 : (k : Int) < (l.length : Int) := by omega
        simp only [ite_if]; simp only [lt_d, len_d, cond_dec, h0, h1, if_true, rd_at l k hk, impl_AreEntries_1_is, bind_some', next_id hk (by omega)]
        cases entryP l[k] <;> rfl
      · simp only [lt_d, len_d, cond_dec]; rw [if_neg (by omega)], bind_some', ge_d]
    cases (l.any fun o => !entryP o) <;> simp
  unfold impl_AreEntries entriesP
  rw [e, bind_some', not_b, not_any, le_d, len_d, cond_dec]
  by_cases h16 : l.length ≤ 16
  · rw [if_pos (by omega)]; simp [h16]
  · rw [if_neg (by omega)]; simp [h16]

end D
end Go.Sh
set_option linter.unusedVariables false
set_option linter.unusedSimpArgs false
set_option synthInstance.maxSize 100000
set_option maxHeartbeats 4000000
namespace Go.Sh
open Go Data
namespace D
/-! ## States of a script -/
def lst (l : List Int) (n : Nat) : Bool := (l.all fun x => decide (0 ≤ x ∧ x ≤ 999)) && decide (l.length = n)

def stateP (s : State) : Bool := decide (0 ≤ s.1 ∧ s.1 ≤ 19) && (lst s.2.1 4 && (lst s.2.2.1 3 && lst s.2.2.2 4))

def canP (l : List Op) (s : State) : Bool := scriptP l && stateP s && decide (s.1 < (l.length : Int))

theorem spec_l11All_is {l : List Int} (h : l.length ≤ 4611686018427387904) (n : Nat) : spec_l11All l (n : Int) = some (lst l n) := by
  refine (loop_find l (fun k => ((k : Nat) : Int)) (fun x => if decide (0 ≤ x ∧ x ≤ 999) = true then none else some false) (decide (l.length = n)) (fun k hk => ?_) ?_).trans ?_
  · have h0 : (0 : Int) ≤ (k : Int) := by omega
    have h1 : (k : Int) < (l.length : Int) := by omega
    simp only [ite_if]; simp only [lt_d, len_d, cond_dec, h0, h1, if_true, rd_at l k hk, spec_l1In_is, bind_some', not_b, next_id hk (by omega)]
    cases decide (0 ≤ l[k] ∧ l[k] ≤ 999) <;> rfl
  · simp only [lt_d, eq_d, len_d, cond_dec]; rw [if_neg (by omega)]; congr 2; exact decide_eq_decide.2 (by omega)
  · rw [find_all]; rfl

theorem spec_IsState_is {s : State} (h : ok s) : spec_IsState s = some (stateP s) := by
  obtain ⟨_, ⟨h1, _⟩, ⟨h2, _⟩, ⟨h3, _⟩⟩ := h
  unfold spec_IsState stateP
  rw [spec_l1In_is, bind_some', show (4 : Int) = ((4 : Nat) : Int) from rfl, show (3 : Int) = ((3 : Nat) : Int) from rfl, spec_l11All_is (by omega), bind_some', spec_l11All_is (by omega), bind_some', spec_l11All_is (by omega), bind_some']
  cases decide (0 ≤ s.1 ∧ s.1 ≤ 19) <;> cases lst s.2.1 4 <;> cases lst s.2.2.1 3 <;> simp

theorem impl_IsState_is {s : State} (h : ok s) : impl_IsState s = some (stateP s) := by
  obtain ⟨_, ⟨h1, _⟩, ⟨h2, _⟩, ⟨h3, _⟩⟩ := h
  unfold impl_IsState stateP lst
  simp only [impl_InRange_is, bind_some', impl_allIn_is (l := s.2.1) (by omega), impl_allIn_is (l := s.2.2.1) (by omega), impl_allIn_is (l := s.2.2.2) (by omega), eq_d, len_d, cond_dec]
  have e1 : ((s.2.1.length : Int) = 4) = (s.2.1.length = 4) := propext (by omega)
  have e2 : ((s.2.2.1.length : Int) = 3) = (s.2.2.1.length = 3) := propext (by omega)
  have e3 : ((s.2.2.2.length : Int) = 4) = (s.2.2.2.length = 4) := propext (by omega)
  simp only [e1, e2, e3]
  by_cases c0 : 0 ≤ s.1 ∧ s.1 ≤ 19 <;> by_cases c1 : s.2.1.length = 4 <;> by_cases c2 : s.2.2.1.length = 3 <;> by_cases c3 : s.2.2.2.length = 4 <;> simp only [c0, c1, c2, c3, if_true, if_false, and_self, decide_true, decide_false, Bool.and_true, Bool.and_false, Bool.true_and, Bool.false_and]
  cases (s.2.1.all fun x => decide (0 ≤ x ∧ x ≤ 999)) <;> cases (s.2.2.1.all fun x => decide (0 ≤ x ∧ x ≤ 999)) <;> simp

theorem spec_l11Can_is {l : List Op} {s : State} (hl : ok l) (hs : ok s) : spec_l11Can l s = some (canP l s) := by
  have := hl.1
  unfold spec_l11Can canP
  rw [spec_IsScript_is (by omega), bind_some', spec_IsState_is hs, bind_some', lt_d, len_d]
  cases scriptP l <;> cases stateP s <;> simp

theorem impl_canStep_is {l : List Op} {s : State} (hl : ok l) (hs : ok s) : impl_canStep l s = some (canP l s) := by
  have := hl.1
  unfold impl_canStep canP
  rw [impl_IsScript_is (by omega), bind_some', impl_IsState_is hs, bind_some', lt_d, len_d]
  cases scriptP l <;> cases stateP s <;> simp

theorem lst_ok {l : List Int} {n : Nat} (h : lst l n = true) (hn : n ≤ 4) : ok l := by
  unfold lst at h
  simp only [Bool.and_eq_true, List.all_eq_true, decide_eq_true_eq] at h
  exact ⟨by omega, fun x hx => ok_num (by have := h.1 x hx; omega) (by have := h.1 x hx; omega)⟩

theorem lst_len {l : List Int} {n : Nat} (h : lst l n = true) : N.len l = (n : Int) := by
  unfold lst at h
  simp only [Bool.and_eq_true, decide_eq_true_eq] at h
  rw [len_d, h.2]

theorem lst_set {l : List Int} {n : Nat} {i v : Int} (h : lst l n = true) (hv : 0 ≤ v ∧ v ≤ 999) : lst (N.set l i v) n = true := by
  unfold lst at h ⊢
  simp only [Bool.and_eq_true, List.all_eq_true, decide_eq_true_eq] at h ⊢
  refine ⟨fun x hx => ?_, by simp [N.set, h.2]⟩
  rcases List.mem_or_eq_of_mem_set hx with hx | rfl
  · exact h.1 x hx
  · exact hv

theorem lst_rd {l : List Int} {n : Nat} (i : Int) (h : lst l n = true) : 0 ≤ N.rd l i 0 ∧ N.rd l i 0 ≤ 999 := by
  unfold lst at h
  simp only [Bool.and_eq_true, List.all_eq_true, decide_eq_true_eq] at h
  unfold N.rd
  rw [List.getD_eq_getElem?_getD]
  cases e : l[i.toNat]? with
  | none => exact ⟨by simp, by simp⟩
  | some x => exact h.1 x (List.mem_of_getElem? e)

theorem state_ok {s : State} (h : stateP s = true) : ok s := by
  unfold stateP at h
  simp only [Bool.and_eq_true, decide_eq_true_eq] at h
  exact ⟨ok_num (by omega) (by omega), lst_ok h.2.1 (by omega), lst_ok h.2.2.1 (by omega), lst_ok h.2.2.2 (by omega)⟩

theorem opP_reg {o : Op} (h : opP o = true) : 0 ≤ o.2.1 ∧ o.2.1 < 4 := by
  unfold opP at h; simp only [Bool.and_eq_true, decide_eq_true_eq] at h; omega

theorem opP_5 {o : Op} (h : opP o = true) (h5 : o.1 = 5) : (0 ≤ o.2.2.1 ∧ o.2.2.1 < 4) ∧ 0 ≤ o.2.2.2 ∧ o.2.2.2 < 4 := by
  unfold opP at h; rw [h5] at h; simp at h; omega

theorem opP_6 {o : Op} (h : opP o = true) (h5 : o.1 = 6) : 0 ≤ o.2.2.1 ∧ o.2.2.1 < 4 := by
  unfold opP at h; rw [h5] at h; simp at h; omega

theorem opP_7 {o : Op} (h : opP o = true) (h5 : o.1 = 7) : 1 ≤ o.2.2.1 ∧ o.2.2.1 < 4 := by
  unfold opP at h; rw [h5] at h; simp at h; omega

theorem opP_8 {o : Op} (h : opP o = true) (h5 : o.1 = 8) : 0 ≤ o.2.2.1 ∧ o.2.2.1 < 3 := by
  unfold opP at h; rw [h5] at h; simp at h; omega

theorem opP_9 {o : Op} (h : opP o = true) (h5 : o.1 = 9) : 0 ≤ o.2.2.1 ∧ o.2.2.1 < 3 := by
  unfold opP at h; rw [h5] at h; simp at h; omega

theorem opP_1 {o : Op} (h : opP o = true) (h5 : o.1 = 1) : (1 ≤ o.2.2.1 ∧ o.2.2.1 ≤ 9) ∧ 0 ≤ o.2.2.2 ∧ o.2.2.2 ≤ 99 := by
  unfold opP at h; rw [h5] at h; simp at h; omega

structure Can (l : List Op) (s : State) : Prop where
  pos : 0 ≤ s.1
  lt : s.1 < N.len l
  len : l.length ≤ 16
  op : opP (N.rd l s.1 (0, 0, 0, 0)) = true
  regs : lst s.2.1 4 = true
  vars : lst s.2.2.1 3 = true
  outs : lst s.2.2.2 4 = true

theorem canP_spec {l : List Op} {s : State} (h : canP l s = true) : Can l s := by
  unfold canP stateP scriptP at h
  simp only [Bool.and_eq_true, decide_eq_true_eq, List.all_eq_true] at h
  obtain ⟨⟨⟨h1, h2⟩, ⟨h3, h4, h5, h6⟩⟩, h7⟩ := h
  refine ⟨h3.1, by rw [len_d]; exact h7, h1, ?_, h4, h5, h6⟩
  obtain ⟨p, x⟩ := s
  simp only at h3 h7 ⊢
  obtain ⟨k, rfl⟩ : ∃ k : Nat, p = (k : Int) := ⟨p.toNat, by omega⟩
  rw [rd_at l k (by omega)]
  exact h2 _ (List.getElem_mem _)

/-! ## What a step asks for -/
def wantP (l : List Op) (s : State) : Want :=
  if canP l s = true then
    (if 1 ≤ (N.rd l s.1 (0, 0, 0, 0)).1 ∧ (N.rd l s.1 (0, 0, 0, 0)).1 ≤ 4 then
      (if (N.rd l s.1 (0, 0, 0, 0)).1 = 1 then ((N.rd l s.1 (0, 0, 0, 0)).1, ((N.rd l s.1 (0, 0, 0, 0)).2.2.1, (N.rd l s.1 (0, 0, 0, 0)).2.2.2, N.rem (N.rd s.2.1 ((N.rd l s.1 (0, 0, 0, 0)).2.1) 0) 100))
        else ((N.rd l s.1 (0, 0, 0, 0)).1, (0, 0, 0)))
    else (0, (0, 0, 0)))
  else (0, (0, 0, 0))

theorem want_in (l : List Op) (s : State) : 0 ≤ (wantP l s).1 ∧ (wantP l s).1 ≤ 4 := by
  unfold wantP
  split
  · split
    · split <;> simp only <;> omega
    · simp
  · simp

theorem spec_WantOf_is {l : List Op} {s : State} (hl : ok l) (hs : ok s) : spec_WantOf l s = some (wantP l s) := by
  unfold spec_WantOf wantP
  rw [spec_l11Can_is hl hs, bind_some', not_b, cond_if]
  cases hc : canP l s with
  | false => simp
  | true =>
    have c := canP_spec hc
    have r := opP_reg c.op
    have e := lst_len c.regs
    simp only [Bool.not_true, Bool.false_eq_true, if_false, if_true, ite_if, c.pos, c.lt, spec_Asks_is, bind_some', not_d, eq_d, cond_dec, e, r.1, show (N.rd l s.1 (0, 0, 0, 0)).2.1 < ((4 : Nat) : Int) from r.2]
    by_cases h1 : 1 ≤ (N.rd l s.1 (0, 0, 0, 0)).1 ∧ (N.rd l s.1 (0, 0, 0, 0)).1 ≤ 4
    · rw [if_neg (by simpa using h1), if_pos h1]; split <;> rfl
    · rw [if_pos h1, if_neg h1]

theorem impl_WantOf_is {l : List Op} {s : State} (hl : ok l) (hs : ok s) : impl_WantOf l s = some (wantP l s) := by
  unfold impl_WantOf wantP
  rw [impl_canStep_is hl hs, bind_some', not_b, cond_if]
  cases hc : canP l s with
  | false => simp
  | true =>
    have c := canP_spec hc
    have r := opP_reg c.op
    have e := lst_len c.regs
    simp only [Bool.not_true, Bool.false_eq_true, if_false, if_true, ite_if, c.pos, c.lt, impl_Asks_is, bind_some', not_d, eq_d, cond_dec, e, r.1, show (N.rd l s.1 (0, 0, 0, 0)).2.1 < ((4 : Nat) : Int) from r.2]
    by_cases h1 : 1 ≤ (N.rd l s.1 (0, 0, 0, 0)).1 ∧ (N.rd l s.1 (0, 0, 0, 0)).1 ≤ 4
    · rw [if_neg (by simpa using h1), if_pos h1]; split <;> rfl
    · rw [if_pos h1, if_neg h1]

/-! ## Steps -/
theorem spec_l11Copy_is {s : State} (h : ok s) : spec_l11Copy s = some s := by
  obtain ⟨_, ⟨h1, _⟩, ⟨h2, _⟩, ⟨h3, _⟩⟩ := h
  unfold spec_l11Copy
  rw [nite_pos (fitsN (by simp; omega) (by omega)), nite_pos (fitsN (by simp; omega) (by omega)), nite_pos (fitsN (by simp; omega) (by omega))]
  simp [N.app]

theorem impl_copyState_is {s : State} (h : ok s) : impl_copyState s = some s := by
  obtain ⟨_, ⟨h1, _⟩, ⟨h2, _⟩, ⟨h3, _⟩⟩ := h
  unfold impl_copyState
  rw [slices_Clone_int_is (by omega), bind_some', slices_Clone_int_is (by omega), bind_some', slices_Clone_int_is (by omega), bind_some']

theorem minmax (x : Int) {R : Type} (K : Int → Option R) : (N.bind (spec_Min 999 x) fun r3 => N.bind (spec_Max 0 r3) fun r4 => K r4) = K (N.min (N.max x 0) 999) := by
  simp only [spec_Min, spec_Max, lt_d, gt_d, cond_dec, N.min, N.max]
  by_cases h1 : x < 999
  · rw [if_pos h1, bind_some']
    by_cases h2 : 0 < x
    · rw [if_pos h2, bind_some']; congr 1; split <;> split <;> omega
    · rw [if_neg h2, bind_some']; congr 1; split <;> split <;> omega
  · rw [if_neg h1, bind_some', if_pos (by omega), bind_some']; congr 1; split <;> split <;> omega

theorem step_same {l : List Op} {s : State} (hl : ok l) (hs : ok s) (x : Int) : impl_StepState l s x = spec_StepState l s x := by
  unfold impl_StepState spec_StepState
  rw [impl_copyState_is hs, spec_l11Copy_is hs, bind_some', bind_some', impl_canStep_is hl hs, spec_l11Can_is hl hs, bind_some', bind_some']
  simp only [minmax x]

theorem can_step {l : List Op} {s : State} (hl : ok l) (hc : canP l s = true) (x : Int) : Gets (fun t => stateP t = true ∧ s.1 < t.1) (spec_StepState l s x) := by
  have hs : ok s := state_ok (by unfold canP at hc; simp only [Bool.and_eq_true] at hc; exact hc.1.2)
  have c := canP_spec hc
  have hop := c.op
  have r := opP_reg hop
  have e1 := lst_len c.regs; have e2 := lst_len c.vars; have e3 := lst_len c.outs
  have hlen := c.len; have hlt := c.lt; have hpos := c.pos
  rw [len_d] at hlt
  have n1 : N.add .i64 s.1 1 = s.1 + 1 := add_id (by omega) (by omega)
  unfold spec_StepState
  rw [spec_l11Copy_is hs, bind_some', spec_l11Can_is hl hs, bind_some', hc, not_b, Bool.not_true, cond_false]
  refine Gets.ite c.pos (Gets.ite c.lt ?_)
  generalize ho : N.rd l s.1 (0, 0, 0, 0) = o at *
  have fin : ∀ {a b d : List Int}, lst a 4 = true → lst b 3 = true → lst d 4 = true → Gets (fun t : State => stateP t = true ∧ s.1 < t.1) (some (N.add .i64 s.1 1, a, b, d)) := fun h1 h2 h3 => Gets.pure ⟨by
    unfold stateP; simp only [n1, h1, h2, h3, Bool.and_true, decide_eq_true_eq]; omega, by simp only [n1]; omega⟩
  refine Gets.cond (fun h5 => ?_) fun _ => Gets.cond (fun h6 => ?_) fun _ => Gets.cond (fun h7 => ?_) fun _ => Gets.cond (fun h8 => ?_) fun _ => Gets.cond (fun h9 => ?_) fun _ => ?_
  · have q := opP_5 hop (of_decide_eq_true h5)
    have v1 := lst_rd o.2.2.1 c.regs; have v2 := lst_rd o.2.2.2 c.regs
    refine Gets.ite q.1.1 (Gets.ite (by rw [e1]; exact q.1.2) (Gets.ite q.2.1 (Gets.ite (by rw [e1]; exact q.2.2) (Gets.ite r.1 (Gets.ite (by rw [e1]; exact r.2) (Gets.let_ (fin (lst_set c.regs ?_) c.vars c.outs)))))))
    rw [add_id (by omega) (by omega), rem_pos (by omega)]
    omega
  · have q := opP_6 hop (of_decide_eq_true h6)
    exact Gets.ite r.1 (Gets.ite (by rw [e1]; exact r.2) (Gets.ite q.1 (Gets.ite (by rw [e3]; exact q.2) (Gets.let_ (fin c.regs c.vars (lst_set c.outs (lst_rd _ c.regs)))))))
  · have q := opP_7 hop (of_decide_eq_true h7)
    have n2 : N.add .i64 (s.1 + 1) o.2.2.1 = s.1 + 1 + o.2.2.1 := add_id (by omega) (by omega)
    refine Gets.ite r.1 (Gets.ite (by rw [e1]; exact r.2) (Gets.cond (fun _ => Gets.pure ⟨?_, ?_⟩) fun _ => fin c.regs c.vars c.outs))
    · unfold stateP; simp only [n1, n2, c.regs, c.vars, c.outs, Bool.and_true, decide_eq_true_eq]; omega
    · simp only [n1, n2]; omega
  · have q := opP_8 hop (of_decide_eq_true h8)
    exact Gets.ite q.1 (Gets.ite (by rw [e2]; exact q.2) (Gets.ite r.1 (Gets.ite (by rw [e1]; exact r.2) (Gets.let_ (fin (lst_set c.regs (lst_rd _ c.vars)) c.vars c.outs)))))
  · have q := opP_9 hop (of_decide_eq_true h9)
    exact Gets.ite r.1 (Gets.ite (by rw [e1]; exact r.2) (Gets.ite q.1 (Gets.ite (by rw [e2]; exact q.2) (Gets.let_ (fin c.regs (lst_set c.vars (lst_rd _ c.regs)) c.outs)))))
  · rw [minmax x fun r4 => _]
    refine Gets.ite r.1 (Gets.ite (by rw [e1]; exact r.2) (Gets.let_ (fin (lst_set c.regs ?_) c.vars c.outs)))
    unfold N.min N.max; split <;> split <;> omega

end D
end Go.Sh
set_option linter.unusedVariables false
set_option linter.unusedSimpArgs false
set_option synthInstance.maxSize 100000
set_option maxHeartbeats 4000000
namespace Go.Sh
open Go Data
theorem loop_pair {S R : Type} {f g : S → Option (S ⊕ R)} (I : S → Prop) (m : S → Nat) (Q : R → Prop)
    (h : ∀ s, I s → g s = f s ∧ Gets (fun r => match r with | .inl s' => I s' ∧ m s' < m s | .inr r => Q r) (f s)) (s : S) (hs : I s) : loopF g s = loopF f s ∧ Gets Q (loopF f s) := by
  generalize hn : m s = n
  induction n using Nat.strongRecOn generalizing s with
  | ind n ih =>
    obtain ⟨e1, r, e, hr⟩ := h s hs
    cases r with
    | inl s' => rw [loopF_inl e, loopF_inl (e1.trans e)]; exact ih (m s') (by rw [← hn]; exact hr.2) s' hr.1 rfl
    | inr r => exact ⟨by rw [loopF_inr e, loopF_inr (e1.trans e)], r, loopF_inr e, hr⟩

namespace D
theorem spec_l11Zeros_is (n : Nat) (h : n ≤ 100) : spec_l11Zeros (n : Int) = some (List.replicate n 0) := by
  refine loop_upto (r := List.replicate n 0) n (fun k (a : List Int) => (a, (k : Int))) (fun k => List.replicate k 0) (fun k hk => ?_) ?_
  · have h1 : (k : Int) < (n : Int) := by omega
    simp only [ite_if]; simp only [lt_d, cond_dec, h1, if_true, next_id hk (by omega)]
    rw [if_pos (fitsN (by simp; omega) (by omega)), List.replicate_succ']; rfl
  · simp only [lt_d, cond_dec]; rw [if_neg (by omega)]

def startP : State := (0, List.replicate 4 0, List.replicate 3 0, List.replicate 4 0)

theorem spec_StartState_is : spec_StartState = some startP := by
  unfold spec_StartState
  rw [show (4 : Int) = ((4 : Nat) : Int) from rfl, show (3 : Int) = ((3 : Nat) : Int) from rfl, spec_l11Zeros_is 4 (by omega), spec_l11Zeros_is 3 (by omega)]; rfl

theorem impl_StartState_is : impl_StartState = some startP := rfl

theorem start_state : stateP startP = true := by decide

theorem ok_rng {x a b : Int} (h : a ≤ x ∧ x ≤ b) (ha : -1000000000 ≤ a) (hb : b ≤ 1000000000) : ok x := ⟨by omega, by omega⟩

theorem can_of {l : List Op} {s : State} (h1 : scriptP l = true) (h2 : stateP s = true) (h3 : ¬ (l.length : Int) ≤ s.1) : canP l s = true := by
  unfold canP; rw [h1, h2]; simp; omega

theorem want_ok {l : List Op} {s : State} (h : stateP s = true) : ok (wantP l s) := by
  have z : ok (0 : Int) := ok_num (by omega) (by omega)
  unfold wantP
  split
  · rename_i hc
    have c := canP_spec hc
    split
    · rename_i h1
      split
      · rename_i h2
        have q := opP_1 c.op h2
        have v := lst_rd ((N.rd l s.1 (0, 0, 0, 0)).2.1) c.regs
        refine ⟨ok_rng h1 (by omega) (by omega), ok_rng q.1 (by omega) (by omega), ok_rng q.2 (by omega) (by omega), ?_⟩
        show ok (N.rem _ 100)
        rw [rem_pos v.1]; exact ok_num (by omega) (by omega)
      · exact ⟨ok_rng h1 (by omega) (by omega), z, z, z⟩
    · exact ⟨z, z, z, z⟩
  · exact ⟨z, z, z, z⟩

/-- what is known while a script runs -/
structure Run (tr : List (List Int)) (s : List Entry × State) : Prop where
  st : stateP s.2 = true
  len : s.1.length ≤ tr.length
  ent : ∀ x ∈ s.1, ok x

theorem state_pos {s : State} (h : stateP s = true) : 0 ≤ s.1 ∧ s.1 ≤ 19 := by
  unfold stateP at h; simp only [Bool.and_eq_true, decide_eq_true_eq] at h; exact h.1

def mEnd (tr : List (List Int)) (es : List Entry) : List Entry × Bool := if es.length = tr.length then (if entriesP es = true then (es, true) else ([], false)) else ([], false)

def pairAt (tr : List (List Int)) (es : List Entry) : List Int := N.rd tr (es.length : Int) []

noncomputable def mStep (l : List Op) (tr : List (List Int)) (s : List Entry × State) : Option ((List Entry × State) ⊕ (List Entry × Bool)) :=
  if (l.length : Int) ≤ s.2.1 then some (.inr (mEnd tr s.1))
  else if 0 < (wantP l s.2).1 then
    (if s.1.length = tr.length then some (.inr ([], false))
     else if ¬ (pairAt tr s.1).length = 2 then some (.inr ([], false))
     else if ¬ N.rd (pairAt tr s.1) 0 0 = (wantP l s.2).1 then some (.inr ([], false))
     else N.bind (spec_StepState l s.2 (N.rd (pairAt tr s.1) 1 0)) fun t => some (.inl (s.1 ++ [((wantP l s.2).1, (wantP l s.2).2, N.rd (pairAt tr s.1) 1 0)], t)))
  else N.bind (spec_StepState l s.2 0) fun t => some (.inl (s.1, t))

theorem pair_ok {tr : List (List Int)} (ht : ok tr) (es : List Entry) : ok (N.rd (pairAt tr es) 1 0) := by
  have z : ok (0 : Int) := ok_num (by omega) (by omega)
  have h1 : ok (pairAt tr es) := few.rd (n := 1048576) (d := []) ht ⟨by simp, fun _ h => by cases h⟩
  exact few.rd (n := 1048576) h1 z

theorem mStep_gets {l : List Op} {tr : List (List Int)} (hl : ok l) (ht : ok tr) (hsc : scriptP l = true) (h16 : tr.length ≤ 16) {s : List Entry × State} (h : Run tr s) :
    Gets (fun r => match r with | .inl s' => Run tr s' ∧ 20 - s'.2.1.toNat < 20 - s.2.1.toNat | .inr r => few 16 r.1 ∧ ∀ x ∈ r.1, ok x) (mStep l tr s) := by
  have nil : few 16 ([] : List Entry) ∧ ∀ x ∈ ([] : List Entry), ok x := ⟨few.nil, fun _ h => by cases h⟩
  unfold mStep
  split
  · refine Gets.pure ?_
    show few 16 (mEnd tr s.1).1 ∧ _
    unfold mEnd
    split
    · split
      · rename_i h1 _; exact ⟨⟨by simp only; omega, h.ent⟩, h.ent⟩
      · exact nil
    · exact nil
  · rename_i hd
    have hc := can_of hsc h.st hd
    split
    · split
      · exact Gets.pure nil
      · split
        · exact Gets.pure nil
        · split
          · exact Gets.pure nil
          · rename_i h1 _ _
            have hlen := h.len
            have hw := want_ok (l := l) h.st
            refine Gets.bind (can_step hl hc _) fun t ⟨h2, h3⟩ => Gets.pure ⟨⟨h2, by simp; omega, fun x hx => ?_⟩, ?_⟩
            · rcases List.mem_append.1 hx with hx | hx
              · exact h.ent x hx
              · simp only [List.mem_singleton] at hx; subst hx; exact ⟨hw.1, hw.2, pair_ok ht _⟩
            · have := state_pos h.st; have := state_pos h2; simp only; omega
    · refine Gets.bind (can_step hl hc _) fun t ⟨h2, h3⟩ => Gets.pure ⟨⟨h2, h.len, h.ent⟩, ?_⟩
      have := state_pos h.st; have := state_pos h2; simp only; omega

noncomputable def migrateP (l : List Op) (tr : List (List Int)) : List Entry × Bool :=
  if scriptP l = true ∧ tr.length ≤ 16 then (loopF (mStep l tr) ([], startP)).getD ([], false) else ([], false)

theorem loop_m {l : List Op} {tr : List (List Int)} (hl : ok l) (ht : ok tr) (hsc : scriptP l = true) (h16 : tr.length ≤ 16) : Gets (fun r => few 16 r.1 ∧ ∀ x ∈ r.1, ok x) (loopF (mStep l tr) ([], startP)) :=
  Gets.loop (Run tr) (fun s => 20 - s.2.1.toNat) (fun s hs => (mStep_gets hl ht hsc h16 hs).mono fun r h => by cases r <;> exact h) _ ⟨start_state, by simp, fun _ h => by cases h⟩

theorem migrate_few {l : List Op} {tr : List (List Int)} (hl : ok l) (ht : ok tr) : few 16 (migrateP l tr).1 := by
  unfold migrateP
  split
  · rename_i h
    obtain ⟨r, e, h1, _⟩ := loop_m hl ht h.1 h.2
    rw [e]; exact h1
  · exact few.nil

/-- a wrong pair is never passed -/
theorem mStep_bad {l : List Op} {tr : List (List Int)} (hl : ok l) (ht : ok tr) (hsc : scriptP l = true) (h16 : tr.length ≤ 16) {k : Nat} (hk : k < tr.length) (hb : ¬ (tr[k]).length = 2) : loopF (mStep l tr) ([], startP) = some ([], false) := by
  have key : Gets (fun r => r = (([], false) : List Entry × Bool)) (loopF (mStep l tr) ([], startP)) := by
    refine Gets.loop (fun s => Run tr s ∧ s.1.length ≤ k) (fun s => 20 - s.2.1.toNat) (fun s hs => ?_) _ ⟨⟨start_state, by simp, fun _ h => by cases h⟩, by simp⟩
    obtain ⟨hs, hk2⟩ := hs
    obtain ⟨r, e, hr⟩ := mStep_gets hl ht hsc h16 hs
    refine ⟨r, e, ?_⟩
    unfold mStep at e
    split at e
    · simp only [Option.some.injEq] at e; subst e
      show mEnd tr s.1 = _
      unfold mEnd; rw [if_neg (by omega)]
    · split at e
      · split at e
        · simp only [Option.some.injEq] at e; subst e; rfl
        · split at e
          · simp only [Option.some.injEq] at e; subst e; rfl
          · split at e
            · simp only [Option.some.injEq] at e; subst e; rfl
            · rename_i h2 _
              cases hst : spec_StepState l s.2 (N.rd (pairAt tr s.1) 1 0) with
              | none => rw [hst] at e; cases e
              | some t =>
                rw [hst, bind_some'] at e
                simp only [Option.some.injEq] at e; subst e
                refine ⟨⟨hr.1, ?_⟩, hr.2⟩
                have hne : ¬ s.1.length = k := fun h => by
                  unfold pairAt at h2
                  rw [h, rd_at tr k hk] at h2
                  exact h2 hb
                simp; omega
      · cases hst : spec_StepState l s.2 0 with
        | none => rw [hst] at e; cases e
        | some t =>
          rw [hst, bind_some'] at e
          simp only [Option.some.injEq] at e; subst e
          exact ⟨⟨hr.1, hk2⟩, hr.2⟩
  obtain ⟨r, e, rfl⟩ := key
  exact e

theorem impl_Migrate_is {l : List Op} {tr : List (List Int)} (hl : ok l) (ht : ok tr) : impl_Migrate l tr = some (migrateP l tr) := by
  have hll := hl.1; have htl := ht.1
  unfold impl_Migrate migrateP
  rw [impl_IsScript_is (by omega), bind_some', not_b]
  cases hsc : scriptP l with
  | false => rw [if_neg (by simp)]; rfl
  | true =>
    rw [Bool.not_true, cond_false, gt_d, len_d, cond_dec]
    by_cases h16 : 16 < (tr.length : Int)
    · rw [if_pos h16, if_neg (by omega)]
    rw [if_neg h16, if_pos ⟨rfl, by omega⟩]
    obtain ⟨r, er, _⟩ := loop_m hl ht hsc (by omega)
    rw [er, Option.getD_some]
    by_cases hall : ∀ x ∈ tr, x.length = 2
    · refine loop_upto (r := r) tr.length (fun k (_ : Unit) => ((k : Nat) : Int)) (fun _ => ()) (fun k hk => ?_) ?_
      · have h0 : (0 : Int) ≤ (k : Int) := by omega
        have h1 : (k : Int) < (tr.length : Int) := by omega
        have h2 := hall _ (List.getElem_mem hk)
        simp only [ite_if]; simp only [lt_d, len_d, cond_dec, h0, h1, if_true, rd_at tr k hk, ne_d, next_id hk (by omega)]
        rw [if_neg (by omega)]
      · simp only [lt_d, len_d, cond_dec]; rw [if_neg (by omega), impl_StartState_is, bind_some']
        refine congrArg (Option.map Sum.inr) (?_ : _ = some r)
        rw [← er]
        refine (loop_pair (f := mStep l tr) (Run tr) (fun s => 20 - s.2.1.toNat) (fun r => few 16 r.1 ∧ ∀ x ∈ r.1, ok x) (fun s hs => ⟨?_, (mStep_gets hl ht hsc (by omega) hs).mono fun r h => by cases r <;> exact h⟩) _ ⟨start_state, by simp, fun _ h => by cases h⟩).1
        have hso := state_ok hs.st
        have hlen := hs.len
        have hw := want_in l s.2
        have p0 : (0 : Int) ≤ (s.1.length : Int) := by omega
        unfold mStep
        simp only [ite_if, impl_IsDone, impl_WantOf_is hl hso, step_same hl hso, bind_some', ge_d, lt_d, len_d, cond_not, cond_dec, ne_d, eq_d, p0, if_true]
        by_cases hd : (l.length : Int) ≤ s.2.1
        · rw [if_pos hd, if_pos hd]
          unfold mEnd
          rw [impl_AreEntries_is (by omega), bind_some']
          by_cases he : s.1.length = tr.length
          · rw [if_neg (by omega), if_pos he]; cases entriesP s.1 <;> rfl
          · rw [if_pos (by omega), if_neg he]; rfl
        · rw [if_neg hd, if_neg hd]
          by_cases hw0 : 0 < (wantP l s.2).1
          · have hwn : ¬ (wantP l s.2).1 = 0 := by omega
            simp only [hw0, hwn, not_false_eq_true, if_true]
            by_cases he : s.1.length = tr.length
            · rw [if_pos (by omega), if_pos he]
            · have hlt : (s.1.length : Int) < (tr.length : Int) := by omega
              have he' : ¬ (s.1.length : Int) = (tr.length : Int) := by omega
              have h2 : (pairAt tr s.1).length = 2 := by unfold pairAt; rw [rd_at tr s.1.length (by omega)]; exact hall _ (List.getElem_mem _)
              unfold pairAt at h2 ⊢
              generalize N.rd tr (s.1.length : Int) [] = pr at *
              have h2' : (pr.length : Int) = 2 := by omega
              simp only [he, he', hlt, h2, h2', not_true_eq_false, if_false, show (0 : Int) < 2 from by omega, show (1 : Int) < 2 from by omega, if_true]
              by_cases h3 : N.rd pr 0 0 = (wantP l s.2).1
              · simp only [h3, not_true_eq_false, if_false]
                rw [if_pos (fitsN (by simp; omega) (by omega))]; rfl
              · simp only [h3, not_false_eq_true, if_true]; rfl
          · have hwn : (wantP l s.2).1 = 0 := by omega
            simp only [hw0, hwn, not_true_eq_false, if_false]
            rfl
    · -- one is wrong
      have hex : ∃ x ∈ tr, (decide (¬ x.length = 2)) = true := by
        false_or_by_contra
        rename_i hno
        exact hall fun x hx => by
          false_or_by_contra
          rename_i h2
          exact hno ⟨x, hx, by simpa using h2⟩
      obtain ⟨k, hk, hb2, hbef⟩ : ∃ k, ∃ hk : k < tr.length, ¬ (tr[k]).length = 2 ∧ ∀ j, ∀ hj : j < tr.length, j < k → (tr[j]).length = 2 := by
        have hk := List.findIdx_lt_length_of_exists hex
        have hbad := List.findIdx_getElem (w := hk)
        refine ⟨_, hk, by simpa using hbad, fun j hj hjk => ?_⟩
        have := List.not_of_lt_findIdx hjk
        simpa using this
      have hr := mStep_bad hl ht hsc (by omega) hk hb2
      rw [er] at hr
      simp only [Option.some.injEq] at hr
      rw [hr]
      refine loop_upto (r := ([], false)) k (fun k (_ : Unit) => ((k : Nat) : Int)) (fun _ => ()) (fun j hj => ?_) ?_
      · have hjt : j < tr.length := by omega
        have h0 : (0 : Int) ≤ (j : Int) := by omega
        have h1 : (j : Int) < (tr.length : Int) := by omega
        have h2 := hbef j hjt hj
        simp only [ite_if]; simp only [lt_d, len_d, cond_dec, h0, h1, if_true, rd_at tr j hjt, ne_d, next_id hjt (by omega)]
        rw [if_neg (by omega)]
      · have h0 : (0 : Int) ≤ (k : Int) := by omega
        have h1 : (k : Int) < (tr.length : Int) := by omega
        simp only [ite_if]; simp only [lt_d, len_d, cond_dec, h0, h1, if_true, rd_at tr k hk, ne_d]
        rw [if_pos (by omega)]

def equivP (r : List Entry × Bool) (e : List Entry) : Bool := r.2 && decide (r.1 = e)

theorem impl_IsEquivalent_is {l : List Op} {tr : List (List Int)} (hl : ok l) (ht : ok tr) (e : List Entry) : impl_IsEquivalent l tr e = some (equivP (migrateP l tr) e) := by
  have := (migrate_few hl ht).1
  unfold impl_IsEquivalent equivP
  rw [impl_Migrate_is hl ht, bind_some', impl_EqualEntries_is (by omega), bind_some']
  cases (migrateP l tr).2 <;> simp

end D
end Go.Sh
set_option linter.unusedVariables false
set_option linter.unusedSimpArgs false
set_option synthInstance.maxSize 100000
set_option maxHeartbeats 4000000
namespace Go.Sh
open Go Data
namespace D
end D
end Go.Sh
set_option linter.unusedVariables false
set_option linter.unusedSimpArgs false
set_option synthInstance.maxSize 100000
set_option maxHeartbeats 4000000
namespace Go.Sh
open Go Data
namespace D
end D
end Go.Sh
set_option linter.unusedVariables false
set_option linter.unusedSimpArgs false
set_option synthInstance.maxSize 100000
set_option maxHeartbeats 4000000
namespace Go.Sh
open Go Data
end Go.Sh
set_option linter.unusedVariables false
set_option linter.unusedSimpArgs false
set_option synthInstance.maxSize 100000
set_option maxHeartbeats 4000000
namespace Go.Sh
open Go Data
namespace D
def toOldP (l : List Entry) : List (List Int) := l.flatMap fun e => [[e.1, e.2.2]]

theorem toOld_ok {l : List Entry} (h : ok l) : ok (toOldP l) := by
  have hf := flat_len (f := fun e : Entry => [[e.1, e.2.2]]) (m := 1) l (fun a _ => by simp)
  have := h.1
  refine ⟨by unfold toOldP; omega, fun y hy => ?_⟩
  obtain ⟨a, ha, hy⟩ := List.mem_flatMap.1 hy
  simp only [List.mem_singleton] at hy
  subst hy
  refine ⟨by simp, fun z hz => ?_⟩
  simp only [List.mem_cons, List.not_mem_nil, or_false] at hz
  rcases hz with rfl | rfl
  · exact (h.2 a ha).1
  · exact (h.2 a ha).2.2

theorem spec_ToOld_is {l : List Entry} (h : ok l) : spec_ToOld l = some (toOldP l) := by
  have hl := h.1
  refine loop_flat l (fun e => [[e.1, e.2.2]]) (fun k hk => ?_) ?_
  · have h0 : (0 : Int) ≤ (k : Int) := by omega
    have h1 : (k : Int) < (l.length : Int) := by omega
    have h2 := take_flat_len (f := fun e : Entry => [[e.1, e.2.2]]) (m := 1) (xs := l) (fun a _ => by simp) (Nat.le_of_lt hk)
    simp only [ite_if]; simp only [lt_d, len_d, cond_dec, h0, h1, if_true, rd_at l k hk, next_id hk (by omega)]
    rw [if_pos (fitsN (by show (List.flatMap _ (l.take k)).length + 1 ≤ 100000000; omega) (by omega))]; rfl
  · simp only [lt_d, len_d, cond_dec]; rw [if_neg (by omega)]

theorem impl_ToOld_is {l : List Entry} (h : ok l) : impl_ToOld l = some (toOldP l) := by
  have hl := h.1
  refine loop_flat l (fun e => [[e.1, e.2.2]]) (fun k hk => ?_) ?_
  · have h0 : (0 : Int) ≤ (k : Int) := by omega
    have h1 : (k : Int) < (l.length : Int) := by omega
    have h2 := take_flat_len (f := fun e : Entry => [[e.1, e.2.2]]) (m := 1) (xs := l) (fun a _ => by simp) (Nat.le_of_lt hk)
    simp only [ite_if]; simp only [lt_d, len_d, cond_dec, h0, h1, if_true, rd_at l k hk, next_id hk (by omega)]
    rw [if_pos (fitsN (by show (List.flatMap _ (l.take k)).length + 1 ≤ 100000000; omega) (by omega))]; rfl
  · simp only [lt_d, len_d, cond_dec]; rw [if_neg (by omega)]

end D
end Go.Sh
set_option linter.unusedVariables false
set_option linter.unusedSimpArgs false
set_option synthInstance.maxSize 100000
set_option maxHeartbeats 4000000
namespace Go.Sh
open Go Data
namespace D
theorem addr3 (f a : Address) : N.both (N.eq f.1 a.1) (N.both (N.eq f.2.1 a.2.1) (N.eq f.2.2 a.2.2)) = decide (f = a) := by
  obtain ⟨f0, f1, f2⟩ := f; obtain ⟨a0, a1, a2⟩ := a
  simp only [eq_d, both_d, Prod.mk.injEq]

end D
end Go.Sh
set_option linter.unusedVariables false
set_option linter.unusedSimpArgs false
set_option synthInstance.maxSize 100000
set_option maxHeartbeats 4000000
namespace Go.Sh
open Go Data
namespace D
/-! ## Replays -/
structure PRun (es : List Entry) (s : List State × Int × (Int × Int × Int × List Int × List Int × List Int) × (Int × List Int × List Int × List Int)) : Prop where
  st : stateP s.2.2.2 = true
  n0 : 0 ≤ s.2.1
  n1 : s.2.1 ≤ es.length
  tr : (s.1.length : Int) ≤ s.2.2.2.1 + 1

theorem entriesP_len {es : List Entry} (h : entriesP es = true) : es.length ≤ 16 := by
  unfold entriesP at h; simp only [Bool.and_eq_true, decide_eq_true_eq] at h; exact h.1

end D
end Go.Sh
set_option linter.unusedVariables false
set_option linter.unusedSimpArgs false
set_option synthInstance.maxSize 100000
set_option maxHeartbeats 4000000
namespace Go.Sh
open Go Data
namespace D
/-! ## Sites and visits -/
def verP (c : Version) : Bool := addrP c.1 && decide (0 ≤ c.2.1 ∧ c.2.1 ≤ 1000) && resP c.2.2

def siteP (l : List Version) : Bool := decide (l.length ≤ 12) && l.all verP

theorem impl_IsSite_is {l : List Version} (h : ok l) : impl_IsSite l = some (siteP l) := by
  have hl := h.1
  unfold impl_IsSite slices_ContainsFunc_Version_impl_IsSite_1 siteP
  have e1 : ∀ c : Version, ok c → impl_IsSite_1 c = some (!verP c) := fun c hc => by
    unfold impl_IsSite_1 verP
    simp only [impl_IsAddress_is, impl_InRange_is, impl_IsResource_is (r := c.2.2) (by have := hc.2.2.2.1.1; omega), bind_some', cond_not, not_b]
    cases addrP c.1 <;> cases decide (0 ≤ c.2.1 ∧ c.2.1 ≤ 1000) <;> simp
  have e : slices_IndexFunc_Version_impl_IsSite_1 l = some (if l.any (fun c => !verP c) = true then (l.findIdx (fun c => !verP c) : Int) else -1) := by
    refine loop_index l (fun k => (k : Int)) (fun c => !verP c) (fun k hk => ?_) ?_
    · have h0 : (0 : Int) ≤ (k : Int) := by omega
      have h1 : (k : Int) < (l.length : Int) := by omega
      simp only [ite_if]; simp only [lt_d, len_d, cond_dec, h0, h1, if_true, rd_at l k hk, e1 _ (h.at hk), bind_some', next_id hk (by omega)]
      simp only [cond_if]; split <;> rfl
    · simp only [lt_d, len_d, cond_dec]; rw [if_neg (by omega)]
  rw [e]
  simp only [bind_some', le_d, ge_d, len_d, cond_dec, not_b]
  have e2 : l.all verP = !l.any (fun c => !verP c) := by rw [List.not_any_eq_all_not]; simp
  by_cases h1 : l.length ≤ 12
  · rw [if_pos (by omega), e2]
    cases h2 : l.any fun c => !verP c
    · simp [h1]
    · rw [if_pos rfl]; simp
  · rw [if_neg (by omega)]; simp [h1]

theorem spec_IsSite_is {l : List Version} (h : ok l) : spec_IsSite l = some (siteP l) := by
  have hl := h.1
  refine (loop_find l (fun k => ((k : Nat) : Int)) (fun x => if verP x = true then none else some false) (decide (l.length ≤ 12)) (fun k hk => ?_) ?_).trans ?_
  · have h0 : (0 : Int) ≤ (k : Int) := by omega
    have h1 : (k : Int) < (l.length : Int) := by omega
    have hr := (h.at hk).2.2.2.1.1
    simp only [ite_if]; simp only [lt_d, len_d, cond_dec, h0, h1, if_true, rd_at l k hk, spec_IsAddress_is, spec_l1In_is, spec_IsResource_is (r := (l[k]).2.2) (by omega), bind_some', next_id hk (by omega), cond_not]
    unfold verP
    by_cases c2 : 0 ≤ (l[k]).2.1 ∧ (l[k]).2.1 ≤ 1000 <;> cases addrP (l[k]).1 <;> cases resP (l[k]).2.2 <;> simp [c2]
  · simp only [lt_d, len_d, cond_dec]; rw [if_neg (by omega)]
    congr 2
    simp only [le_d]
    by_cases h1 : l.length ≤ 12 <;> simp [h1] <;> omega
  · rw [find_all, Bool.and_comm]; rfl

def visitP (v : Visit) : Bool := siteP v.1 && (decide (0 ≤ v.2.1 ∧ v.2.1 ≤ 1000) && (decide (0 ≤ v.2.2.1 ∧ v.2.2.1 ≤ 9999) && (decide (v.2.2.2.length ≤ 8) && v.2.2.2.all fun x => decide (0 ≤ x ∧ x ≤ 999))))

theorem impl_IsVisit_is {v : Visit} (h : ok v) : impl_IsVisit v = some (visitP v) := by
  have hl := h.2.2.2.1
  unfold impl_IsVisit visitP
  simp only [impl_IsSite_is h.1, impl_InRange_is, impl_allIn_is (l := v.2.2.2) (by omega), bind_some', le_d, len_d]
  have e : ((v.2.2.2.length : Int) ≤ 8) = (v.2.2.2.length ≤ 8) := propext (by omega)
  simp only [e]
  cases siteP v.1 <;> cases decide (0 ≤ v.2.1 ∧ v.2.1 ≤ 1000) <;> cases decide (0 ≤ v.2.2.1 ∧ v.2.2.1 ≤ 9999) <;> cases decide (v.2.2.2.length ≤ 8) <;> simp

theorem spec_IsVisit_is {v : Visit} (h : ok v) : spec_IsVisit v = some (visitP v) := by
  have hl := h.2.2.2.1
  unfold spec_IsVisit visitP
  simp only [spec_IsSite_is h.1, spec_l1In_is, len_d, spec_l11All_is (l := v.2.2.2) (by omega), bind_some', le_d]
  have e : ((v.2.2.2.length : Int) ≤ 8) = (v.2.2.2.length ≤ 8) := propext (by omega)
  simp only [e]
  unfold lst
  cases siteP v.1 <;> cases decide (0 ≤ v.2.1 ∧ v.2.1 ≤ 1000) <;> cases decide (0 ≤ v.2.2.1 ∧ v.2.2.1 ≤ 9999) <;> cases decide (v.2.2.2.length ≤ 8) <;> simp

/-! ## Answers -/
def ansStep (a : Address) (t : Int) (r : Resource) (v : Version) : Resource := if v.1 = a ∧ v.2.1 ≤ t then v.2.2 else r

def ansAtP (l : List Version) (a : Address) (t : Int) : Resource := l.foldl (ansStep a t) (4, [], 0, 0, 0)

theorem answer_prop (P : Resource → Prop) (h0 : P (4, [], 0, 0, 0)) {l : List Version} (h : ∀ v ∈ l, P v.2.2) (a : Address) (t : Int) : P (ansAtP l a t) := by
  have : ∀ (l : List Version) (r : Resource), (∀ v ∈ l, P v.2.2) → P r → P (l.foldl (ansStep a t) r) := by
    intro l
    induction l with
    | nil => intro r _ hr; exact hr
    | cons v l ih =>
      intro r hl hr
      rw [List.foldl_cons]
      refine ih _ (fun w hw => hl w (by simp [hw])) ?_
      unfold ansStep
      split
      · exact hl v (by simp)
      · exact hr
  exact this l _ h h0

theorem spec_AnswerAt_is {l : List Version} (h : ok l) (a : Address) (t : Int) : spec_AnswerAt l a t = some (ansAtP l a t) := by
  have hl := h.1
  refine loop_upto (r := ansAtP l a t) l.length (fun k (r : Resource) => ((k : Int), r)) (fun k => (l.take k).foldl (ansStep a t) (4, [], 0, 0, 0)) (fun k hk => ?_) ?_
  · have h0 : (0 : Int) ≤ (k : Int) := by omega
    have h1 : (k : Int) < (l.length : Int) := by omega
    rw [List.take_succ_eq_append_getElem hk, List.foldl_append, List.foldl_cons, List.foldl_nil]
    generalize (l.take k).foldl (ansStep a t) (4, [], 0, 0, 0) = r
    simp only [ite_if]; simp only [lt_d, le_d, len_d, h0, h1, if_true, rd_at l k hk, addr3, cond_dec, next_id hk (by omega), spec_l5Copy_is (h.at hk).2.2, bind_some']
    unfold ansStep
    by_cases c1 : (l[k]).1 = a <;> by_cases c2 : (l[k]).2.1 ≤ t <;> simp [c1, c2]
  · simp only [lt_d, len_d, cond_dec, List.take_length]; rw [if_neg (by omega)]; rfl

theorem impl_AnswerAt_is {l : List Version} (h : ok l) (a : Address) (t : Int) : impl_AnswerAt l a t = some (ansAtP l a t) := by
  have hl := h.1
  unfold impl_AnswerAt
  rw [len_d, sub_id (by omega) (by omega)]
  unfold ansAtP
  have key : ∀ k : Nat, k ≤ l.length → loopF (fun (s1 : Int × (Int × List Int × Int × Int × Int)) =>
      N.cond (N.ge s1.1 0) (N.ite (0 ≤ s1.1) (N.ite (s1.1 < N.len l)
        (N.cond (N.both (N.eq (((N.rd l s1.1 ((0, 0, 0), 0, (0, [], (0, 0, 0)))).1).1) a.1) (N.both (N.eq (((N.rd l s1.1 ((0, 0, 0), 0, (0, [], (0, 0, 0)))).1).2.1) a.2.1) (N.eq (((N.rd l s1.1 ((0, 0, 0), 0, (0, [], (0, 0, 0)))).1).2.2) a.2.2)))
          (N.ite (0 ≤ s1.1) (N.ite (s1.1 < N.len l) (N.cond (N.le ((N.rd l s1.1 ((0, 0, 0), 0, (0, [], (0, 0, 0)))).2.1) t)
            (N.ite (0 ≤ s1.1) (N.ite (s1.1 < N.len l) (N.bind (impl_copyResource ((N.rd l s1.1 ((0, 0, 0), 0, (0, [], (0, 0, 0)))).2.2)) fun r1 => some (.inr r1)) none) none)
            (some (.inl (N.sub .i64 s1.1 1, s1.2)))) none) none)
          (some (.inl (N.sub .i64 s1.1 1, s1.2)))) none) none)
        (some (.inr (4, [], 0, 0, 0)))) ((k : Int) - 1, (0, [], 0, 0, 0)) = some ((l.take k).foldl (ansStep a t) (4, [], 0, 0, 0)) := by
    intro k
    induction k with
    | zero =>
      intro _
      refine loopF_inr ?_
      simp only [ge_d, cond_dec]; rw [if_neg (by omega)]; rfl
    | succ k ih =>
      intro hk
      have hlt : k < l.length := by omega
      have h0 : (0 : Int) ≤ (k : Int) := by omega
      have h1 : (k : Int) < (l.length : Int) := by omega
      have e0 : ((k + 1 : Nat) : Int) - 1 = (k : Int) := by omega
      rw [e0, List.take_succ_eq_append_getElem hlt, List.foldl_append, List.foldl_cons, List.foldl_nil]
      have hs : N.sub .i64 (k : Int) 1 = (k : Int) - 1 := sub_id (by omega) (by omega)
      by_cases c : (l[k]).1 = a ∧ (l[k]).2.1 ≤ t
      · have e1 : ∀ r, ansStep a t r l[k] = (l[k]).2.2 := fun r => by unfold ansStep; rw [if_pos c]
        rw [e1]
        refine loopF_inr ?_
        simp only [ite_if]; simp only [lt_d, le_d, ge_d, len_d, h0, h1, if_true, rd_at l k hlt, addr3, cond_dec, impl_copyResource_is (h.at hlt).2.2, bind_some', c]
      · have e1 : ∀ r, ansStep a t r l[k] = r := fun r => by unfold ansStep; rw [if_neg c]
        rw [e1, ← ih (by omega)]
        refine loopF_inl ?_
        simp only [ite_if]; simp only [lt_d, le_d, ge_d, len_d, h0, h1, if_true, rd_at l k hlt, addr3, cond_dec, hs]
        by_cases c1 : (l[k]).1 = a
        · have c2 : ¬ (l[k]).2.1 ≤ t := fun c2 => c ⟨c1, c2⟩
          simp only [c1, c2, if_true, if_false]
        · simp only [c1, if_false]
  have := key l.length (Nat.le_refl _)
  rw [List.take_length] at this
  exact this

/-! ## Following -/
theorem follow_is {l : List Version} (h : ok l) {P : Resource → Prop} (h0 : P (4, [], 0, 0, 0)) (hp : ∀ v ∈ l, P v.2.2) (a : Address) (t : Int) :
    impl_FollowAt l a t = spec_FollowAt l a t ∧ Gets (fun r => P (r.1, r.2.1, r.2.2.1, r.2.2.2.1, r.2.2.2.2.1)) (spec_FollowAt l a t) := by
  unfold impl_FollowAt spec_FollowAt
  rw [impl_AnswerAt_is h, spec_AnswerAt_is h, bind_some', bind_some']
  refine loop_pair (fun s : List Address × (Int × List Int × Int × Int × Int) => s.1.length ≤ 5 ∧ P s.2) (fun s => 6 - s.1.length) (fun r : Int × List Int × Int × Int × Int × List Address => P (r.1, r.2.1, r.2.2.1, r.2.2.2.1, r.2.2.2.2.1)) (fun s hs => ?_) ([a], ansAtP l a t) ⟨by simp, answer_prop P h0 hp a t⟩
  obtain ⟨hs1, hs2⟩ := hs
  refine ⟨by simp only [slices_Contains_Address_is (l := s.1) (by omega), spec_l9Has_is (l := s.1) (by omega), bind_some', impl_AnswerAt_is h, spec_AnswerAt_is h], ?_⟩
  have fin : Gets (fun r : (List Address × (Int × List Int × Int × Int × Int)) ⊕ (Int × List Int × Int × Int × Int × List Address) => ∃ q, r = .inr q ∧ P (q.1, q.2.1, q.2.2.1, q.2.2.2.1, q.2.2.2.2.1)) (some (.inr (s.2.1, s.2.2.1, s.2.2.2.1, s.2.2.2.2.1, s.2.2.2.2.2, s.1))) := Gets.pure ⟨_, rfl, hs2⟩
  refine Gets.cond (fun _ => Gets.cond (fun hle => ?_) fun _ => ?_) fun _ => ?_
  · have hle' : s.1.length ≤ 4 := by simp only [le_d, len_d, decide_eq_true_eq] at hle; omega
    rw [spec_l9Has_is (l := s.1) (by omega), bind_some']
    refine Gets.cond (fun _ => ?_) fun _ => fin.mono (by rintro _ ⟨q, rfl, hq⟩; exact hq)
    rw [spec_AnswerAt_is h, bind_some']
    exact Gets.ite (fitsN (by simp; omega) (by omega)) (Gets.pure ⟨⟨by simp [N.app]; omega, answer_prop P h0 hp _ t⟩, by simp [N.app]; omega⟩)
  · exact fin.mono (by rintro _ ⟨q, rfl, hq⟩; exact hq)
  · exact fin.mono (by rintro _ ⟨q, rfl, hq⟩; exact hq)

end D
end Go.Sh
set_option linter.unusedVariables false
set_option linter.unusedSimpArgs false
set_option synthInstance.maxSize 100000
set_option maxHeartbeats 4000000
namespace Go.Sh
open Go Data
def sumI : List Int → Int
  | [] => 0
  | x :: xs => x + sumI xs

theorem sumI_app : ∀ (xs ys : List Int), sumI (xs ++ ys) = sumI xs + sumI ys
  | [], ys => by simp [sumI]
  | x :: xs, ys => by simp only [List.cons_append, sumI, sumI_app xs ys]; omega

theorem sumI_in {m : Int} : ∀ (xs : List Int), (∀ x ∈ xs, 0 ≤ x ∧ x ≤ m) → 0 ≤ sumI xs ∧ sumI xs ≤ m * xs.length
  | [], _ => by simp [sumI]
  | x :: xs, h => by
    have h1 := sumI_in xs fun y hy => h y (by simp [hy])
    have h2 := h x (by simp)
    simp only [sumI, List.length_cons]
    rw [show ((xs.length + 1 : Nat) : Int) = (xs.length : Int) + 1 from by omega, Int.mul_add, Int.mul_one]; omega

namespace D
/-! ## What a resource is worth -/
theorem resP_body {r : Resource} (h : resP r = true) : r.2.1.length ≤ 6 ∧ ∀ x ∈ r.2.1, 0 ≤ x ∧ x ≤ 255 := by
  unfold resP bytesP at h
  split at h
  · simp only [Bool.and_eq_true, decide_eq_true_eq, List.all_eq_true] at h
    exact ⟨h.1.1, h.1.2⟩
  · split at h
    · simp only [Bool.and_eq_true, decide_eq_true_eq] at h
      rw [h.1]; exact ⟨by simp, fun x hx => by cases hx⟩
    · split at h
      · simp only [Bool.and_eq_true, decide_eq_true_eq] at h
        rw [h.1]; exact ⟨by simp, fun x hx => by cases hx⟩
      · cases h

theorem resP_kind {r : Resource} (h : resP r = true) : 1 ≤ r.1 ∧ r.1 ≤ 4 := by
  unfold resP at h
  split at h
  · omega
  · split at h
    · omega
    · split at h
      · omega
      · cases h

def valueP (r : Resource) : Int := if resP r = true ∧ r.1 ≤ 2 then (if sumI r.2.1 % 1000 < 999 then sumI r.2.1 % 1000 + 1 else 999) else 0

theorem valueP_in (r : Resource) : 0 ≤ valueP r ∧ valueP r ≤ 999 := by
  unfold valueP; split
  · split <;> omega
  · omega

theorem spec_ValueOfResource_is {r : Resource} (h : r.2.1.length ≤ 4611686018427387904) : spec_ValueOfResource r = some (valueP r) := by
  unfold spec_ValueOfResource valueP
  rw [spec_IsResource_is h, bind_some', not_b]
  cases hr : resP r with
  | false => rw [if_neg (by simp)]; rfl
  | true =>
    have hk := resP_kind hr
    obtain ⟨hb1, hb2⟩ := resP_body hr
    rw [Bool.not_true, cond_false, gt_d, cond_dec]
    by_cases h2 : 2 < r.1
    · rw [if_pos h2, if_neg (by omega)]
    rw [if_neg h2, if_pos ⟨rfl, by omega⟩]
    refine loop_upto r.2.1.length (fun k (a : Int) => (a, (k : Int))) (fun k => sumI (r.2.1.take k) % 1000) _ (fun k hk => ?_) ?_
    · have h0 : (0 : Int) ≤ (k : Int) := by omega
      have h1 : (k : Int) < (r.2.1.length : Int) := by omega
      have h3 := sumI_in (m := 255) (r.2.1.take k) fun x hx => hb2 x (List.mem_of_mem_take hx)
      have h4 := hb2 _ (List.getElem_mem hk)
      simp only [ite_if]; simp only [lt_d, len_d, cond_dec, h0, h1, if_true, rd_at r.2.1 k hk, next_id hk (by omega)]
      rw [add_id (by omega) (by omega), rem_pos (by omega), List.take_succ_eq_append_getElem hk, sumI_app]
      simp only [sumI]
      congr 3
      omega
    · simp only [lt_d, len_d, cond_dec, List.take_length]; rw [if_neg (by omega), add_id (by omega) (by omega)]
      simp only [spec_Min, lt_d, cond_dec]
      by_cases h3 : sumI r.2.1 % 1000 + 1 < 999
      · rw [if_pos h3, if_pos (by omega)]; rfl
      · rw [if_neg h3]
        by_cases h4 : sumI r.2.1 % 1000 < 999
        · rw [if_pos h4, show sumI r.2.1 % 1000 + 1 = 999 by omega]; rfl
        · rw [if_neg h4]; rfl

theorem impl_ValueOfResource_is {r : Resource} (h : r.2.1.length ≤ 4611686018427387904) : impl_ValueOfResource r = some (valueP r) := by
  unfold impl_ValueOfResource valueP impl_hasBody
  rw [impl_IsResource_is h, bind_some', not_b]
  cases hr : resP r with
  | false => rw [if_neg (by simp)]; rfl
  | true =>
    have hk := resP_kind hr
    obtain ⟨hb1, hb2⟩ := resP_body hr
    rw [Bool.not_true, cond_false]
    have e : N.cond (N.eq r.1 1) (some true) (some (N.eq r.1 2)) = some (decide (r.1 ≤ 2)) := by
      simp only [eq_d, cond_dec]
      by_cases h1 : r.1 = 1
      · simp [h1]
      · rw [if_neg h1]; congr 1; exact decide_eq_decide.2 (by omega)
    rw [e, bind_some', not_d, cond_dec]
    by_cases h2 : r.1 ≤ 2
    · rw [if_neg (by simpa using h2), if_pos ⟨rfl, h2⟩]
      refine loop_upto r.2.1.length (fun k (a : Int) => (a, (k : Int))) (fun k => sumI (r.2.1.take k)) _ (fun k hk => ?_) ?_
      · have h0 : (0 : Int) ≤ (k : Int) := by omega
        have h1 : (k : Int) < (r.2.1.length : Int) := by omega
        have h3 := sumI_in (m := 255) (r.2.1.take k) fun x hx => hb2 x (List.mem_of_mem_take hx)
        have hl : ((r.2.1.take k).length : Int) ≤ 6 := by simp; omega
        have h4 := hb2 _ (List.getElem_mem hk)
        simp only [ite_if]; simp only [lt_d, len_d, cond_dec, h0, h1, if_true, rd_at r.2.1 k hk, next_id hk (by omega)]
        rw [add_id (by omega) (by omega), List.take_succ_eq_append_getElem hk, sumI_app]
        simp only [sumI]
        congr 3
        omega
      · have h3 := sumI_in (m := 255) r.2.1 hb2
        simp only [lt_d, len_d, cond_dec, List.take_length]; rw [if_neg (by omega), rem_pos h3.1]
        have h4 : sumI r.2.1 % 1000 < 1000 := by omega
        by_cases h5 : sumI r.2.1 % 1000 < 999
        · rw [if_pos h5, if_pos h5, add_id (by omega) (by omega)]; rfl
        · rw [if_neg h5, if_neg h5, show sumI r.2.1 % 1000 = 999 by omega]; rfl
    · rw [if_pos (by simpa using h2), if_neg (by omega)]

/-! ## What a visit answers -/
theorem visitP_spec {v : Visit} (h : visitP v = true) : siteP v.1 = true ∧ (0 ≤ v.2.1 ∧ v.2.1 ≤ 1000) ∧ (0 ≤ v.2.2.1 ∧ v.2.2.1 ≤ 9999) ∧ ∀ x ∈ v.2.2.2, 0 ≤ x ∧ x ≤ 999 := by
  unfold visitP at h
  simp only [Bool.and_eq_true, decide_eq_true_eq, List.all_eq_true] at h
  exact ⟨h.1, h.2.1, h.2.2.1, h.2.2.2.2⟩

theorem site_res {l : List Version} (h : siteP l = true) : ∀ v ∈ l, resP v.2.2 = true := by
  unfold siteP verP at h
  simp only [Bool.and_eq_true, decide_eq_true_eq, List.all_eq_true] at h
  exact fun v hv => (h.2 v hv).2

def resGood (r : Resource) : Prop := ok r ∧ resP r = true

theorem resGood_none : resGood (4, [], 0, 0, 0) := by
  have z : ok (0 : Int) := ok_num (by omega) (by omega)
  exact ⟨⟨ok_num (by omega) (by omega), ⟨by simp, fun _ h => (by cases h)⟩, z, z, z⟩, by decide⟩

theorem follow_ok {v : Visit} (hv : ok v) (h : visitP v = true) (a : Address) (t : Int) :
    impl_FollowAt v.1 a t = spec_FollowAt v.1 a t ∧ Gets (fun r => resGood (r.1, r.2.1, r.2.2.1, r.2.2.2.1, r.2.2.2.2.1)) (spec_FollowAt v.1 a t) :=
  follow_is hv.1 resGood_none (fun w hw => ⟨(hv.1.2 w hw).2.2, site_res (visitP_spec h).1 w hw⟩) a t

theorem live_is {v : Visit} (hv : ok v) (w : Want) {n : Int} (hn : 0 ≤ n ∧ n ≤ 100) : impl_LiveValue v w n = spec_LiveValue v w n ∧ Gets (fun x => 0 ≤ x ∧ x ≤ 999) (spec_LiveValue v w n) := by
  unfold impl_LiveValue spec_LiveValue
  rw [impl_IsVisit_is hv, spec_IsVisit_is hv, bind_some', bind_some', impl_InRange_is, spec_l1In_is, bind_some', bind_some', show decide (0 ≤ n ∧ n ≤ 100) = true from decide_eq_true hn]
  cases hp : visitP v with
  | false => exact ⟨rfl, 0, rfl, by omega, by omega⟩
  | true =>
    obtain ⟨h1, h2, h3, h4⟩ := visitP_spec hp
    simp only [not_b, Bool.not_true, cond_false, eq_d, cond_dec]
    by_cases k1 : w.1 = 1
    · rw [if_pos k1, if_pos k1]
      obtain ⟨g1, r, g2, g3, g4⟩ := follow_ok hv hp w.2 (N.add .i64 v.2.1 n)
      have gl := g3.2.1.1
      rw [g1, g2, bind_some', bind_some', impl_ValueOfResource_is (by show r.2.1.length ≤ _; have : r.2.1.length ≤ 1048576 := gl; omega), spec_ValueOfResource_is (by show r.2.1.length ≤ _; have : r.2.1.length ≤ 1048576 := gl; omega)]
      exact ⟨rfl, _, rfl, valueP_in _⟩
    rw [if_neg k1, if_neg k1]
    by_cases k2 : w.1 = 2
    · rw [if_pos k2, if_pos k2, add_id (by omega) (by omega)]
      simp only [spec_Min, N.min, lt_d, cond_dec]
      by_cases h5 : v.2.1 + n < 999
      · rw [if_pos h5, if_pos h5]; exact ⟨rfl, _, rfl, by omega, by omega⟩
      · rw [if_neg h5, if_neg h5]; exact ⟨rfl, _, rfl, by omega, by omega⟩
    rw [if_neg k2, if_neg k2]
    by_cases k3 : w.1 = 3
    · rw [if_pos k3, if_pos k3, impl_Hash_is (by simp), spec_Hash_is (by simp), bind_some', bind_some', impl_Mod_is (by omega) (by omega), spec_Mod_is (by omega) (by omega)]
      exact ⟨rfl, _, rfl, by omega, by omega⟩
    rw [if_neg k3, if_neg k3]
    by_cases k4 : w.1 = 4
    · rw [if_pos k4]
      refine ⟨rfl, ?_⟩
      simp only [gt_d, len_d, cond_dec]
      by_cases h5 : 0 < (v.2.2.2.length : Int)
      · have e : N.rem n (v.2.2.2.length : Int) = n % (v.2.2.2.length : Int) := rem_pos hn.1
        have h6 := Int.emod_nonneg n (show (v.2.2.2.length : Int) ≠ 0 by omega)
        have h7 := Int.emod_lt_of_pos n h5
        rw [if_pos h5, nite_neg (by omega), e]
        refine Gets.ite h6 (Gets.ite h7 (Gets.pure ?_))
        obtain ⟨m, hm⟩ : ∃ m : Nat, n % (v.2.2.2.length : Int) = (m : Int) := ⟨(n % (v.2.2.2.length : Int)).toNat, by omega⟩
        rw [hm] at h7 ⊢
        rw [rd_at v.2.2.2 m (by omega)]
        exact h4 _ (List.getElem_mem _)
      · rw [if_neg h5]; exact Gets.pure (by omega)
    rw [if_neg k4]
    exact ⟨rfl, 0, rfl, by omega, by omega⟩

/-! ## Recordings -/
theorem want_addr {l : List Op} {s : State} (hc : canP l s = true) {w : Want} (hw : w = wantP l s) (h0 : 0 < w.1) {x : Int} (hx : 0 ≤ x ∧ x ≤ 999) : entryP (w.1, w.2, x) = true := by
  subst hw
  have hin := want_in l s
  unfold entryP
  have c := canP_spec hc
  simp only [Bool.and_eq_true, decide_eq_true_eq]
  refine ⟨⟨⟨by omega, by omega⟩, hx⟩, ?_⟩
  unfold wantP at h0 ⊢
  rw [if_pos hc] at h0 ⊢
  split at h0
  · rename_i hk
    rw [if_pos hk]
    by_cases h1 : (N.rd l s.1 (0, 0, 0, 0)).1 = 1
    · rw [if_pos h1]
      have q := opP_1 c.op h1
      have v := lst_rd ((N.rd l s.1 (0, 0, 0, 0)).2.1) c.regs
      simp only [h1, if_true]
      unfold addrP
      rw [rem_pos v.1]
      simp only [Bool.and_eq_true, decide_eq_true_eq]
      omega
    · rw [if_neg h1]
      simp only [h1, if_false]
      simp
  · simp at h0

structure Rec (v : Visit) (s : List Entry × List State × (Int × List Int × List Int × List Int)) : Prop where
  st : stateP s.2.2 = true
  e1 : (s.1.length : Int) ≤ s.2.2.1
  e2 : s.1.length ≤ 16
  ent : ∀ e ∈ s.1, entryP e = true
  tr1 : (s.2.1.length : Int) ≤ s.2.2.1 + 1
  tr0 : 0 < s.2.1.length
  tr : ∀ t ∈ s.2.1, stateP t = true

structure RecQ (l : List Op) (v : Visit) (r : List Entry × List State) : Prop where
  e2 : r.1.length ≤ 16
  ent : ∀ e ∈ r.1, entryP e = true
  tr0 : 0 < r.2.length
  trl : r.2.length ≤ 20
  tr : ∀ t ∈ r.2, stateP t = true
  none : visitP v = true ∨ r.1 = []

theorem scriptP_len {l : List Op} (h : scriptP l = true) : l.length ≤ 16 := by
  unfold scriptP at h; simp only [Bool.and_eq_true, decide_eq_true_eq] at h; exact h.1

theorem visited_is {l : List Op} {v : Visit} (hl : ok l) (hv : ok v) : impl_visited l v = spec_l13Run l v ∧ Gets (RecQ l v) (spec_l13Run l v) := by
  have hll := hl.1
  unfold impl_visited spec_l13Run
  rw [impl_StartState_is, spec_StartState_is, bind_some', bind_some', impl_IsScript_is (by omega), bind_some', impl_IsVisit_is hv, bind_some', spec_IsScript_is (by omega), spec_IsVisit_is hv]
  simp only [bind_some']
  have none : ∀ {step : List Entry × List State × (Int × List Int × List Int × List Int) → Option ((List Entry × List State × (Int × List Int × List Int × List Int)) ⊕ (List Entry × List State))}, step ([], [startP], startP) = some (.inr ([], [startP])) →
      some (([], [startP]) : List Entry × List State) = loopF step ([], [startP], startP) ∧ Gets (RecQ l v) (loopF step ([], [startP], startP)) := fun h => by
    rw [loopF_inr h]
    exact ⟨rfl, _, rfl, by simp, fun _ h => (by cases h), by simp, by simp, fun t ht => (by simp only [List.mem_singleton] at ht; subst ht; exact start_state), .inr rfl⟩
  cases hsc : scriptP l with
  | false => exact none rfl
  | true =>
    cases hvp : visitP v with
    | false => exact none rfl
    | true =>
      simp only [not_b, Bool.not_true, cond_false, cond_true]
      refine loop_pair (Rec v) (fun s => 20 - s.2.2.1.toNat) (RecQ l v) (fun s hs => ?_) ([], [startP], startP) ⟨start_state, by simp [startP], by simp, fun _ h => (by cases h), by simp [startP], by simp, fun t ht => by simp only [List.mem_singleton] at ht; subst ht; exact start_state⟩
      obtain ⟨hst, q1, q2, q3, q4, q5, q6⟩ := hs
      have hso := state_ok hst
      have hw := want_in l s.2.2
      have hp := state_pos hst
      have e1 : N.ne (wantP l s.2.2).1 0 = N.gt (wantP l s.2.2).1 0 := by simp only [ne_d, gt_d]; exact decide_eq_decide.2 (by omega)
      have hlv := live_is hv (wantP l s.2.2) (n := N.len s.1) (by rw [len_d]; omega)
      refine ⟨by simp only [impl_IsDone, spec_IsDone, impl_WantOf_is hl hso, spec_WantOf_is hl hso, bind_some', e1, step_same hl hso, hlv.1], ?_⟩
      rw [show spec_IsDone l s.2.2 = some (N.ge s.2.2.1 (N.len l)) from rfl, bind_some']
      refine Gets.cond (fun hd => ?_) fun _ => Gets.pure ⟨q2, q3, q5, by simp only; omega, q6, .inl hvp⟩
      have hd' : ¬ (l.length : Int) ≤ s.2.2.1 := by simpa [not_b, ge_d, len_d] using hd
      have hc := can_of hsc hst hd'
      have h16 := scriptP_len hsc
      rw [spec_WantOf_is hl hso, bind_some']
      refine Gets.cond (fun hw0 => ?_) fun _ => ?_
      · have hw0' : 0 < (wantP l s.2.2).1 := by simpa [gt_d] using hw0
        refine Gets.bind hlv.2 fun x hx => Gets.ite (fitsN (by simp; omega) (by omega)) (Gets.bind (can_step hl hc x) fun t ⟨h2, h3⟩ => ?_)
        have hp2 := state_pos h2
        refine Gets.ite (fitsN (by simp; omega) (by omega)) (Gets.pure ⟨⟨h2, by simp [N.app]; omega, by simp [N.app]; omega, fun e he => ?_, by simp [N.app]; omega, by simp [N.app], fun u hu => ?_⟩, by simp only; omega⟩)
        · rcases List.mem_append.1 he with he | he
          · exact q3 e he
          · simp only [List.mem_singleton] at he; subst he; exact want_addr hc rfl hw0' hx
        · rcases List.mem_append.1 hu with hu | hu
          · exact q6 u hu
          · simp only [List.mem_singleton] at hu; subst hu; exact h2
      · refine Gets.bind (can_step hl hc 0) fun t ⟨h2, h3⟩ => ?_
        have hp2 := state_pos h2
        refine Gets.ite (fitsN (by simp; omega) (by omega)) (Gets.pure ⟨⟨h2, by simp only; omega, q2, q3, by simp [N.app]; omega, by simp [N.app], fun u hu => ?_⟩, by simp only; omega⟩)
        rcases List.mem_append.1 hu with hu | hu
        · exact q6 u hu
        · simp only [List.mem_singleton] at hu; subst hu; exact h2

structure RecR (v : Visit) (r : List Entry × Int × List Int × List Int × List Int) : Prop where
  e2 : r.1.length ≤ 16
  ent : ∀ e ∈ r.1, entryP e = true
  st : stateP r.2 = true
  none : visitP v = true ∨ r.1 = []

theorem record_is {l : List Op} {v : Visit} (hl : ok l) (hv : ok v) : impl_RecordVisit l v = spec_RecordVisit l v ∧ Gets (RecR v) (spec_RecordVisit l v) := by
  obtain ⟨h1, r, h2, h3⟩ := visited_is hl hv
  have t0 := h3.tr0; have tl := h3.trl
  have e : N.sub .i64 (N.len r.2) 1 = ((r.2.length - 1 : Nat) : Int) := by rw [len_d, sub_id (by omega) (by omega)]; omega
  have hlast : stateP (N.rd r.2 ((r.2.length - 1 : Nat) : Int) (0, [], [], [])) = true := by
    rw [rd_at r.2 (r.2.length - 1) (by omega)]; exact h3.tr _ (List.getElem_mem _)
  unfold impl_RecordVisit spec_RecordVisit impl_last
  rw [h1, h2, bind_some', bind_some', e, nite_pos (by omega), nite_pos (by rw [len_d]; omega), impl_copyState_is (state_ok hlast), spec_l11Copy_is (state_ok hlast), nite_pos (by omega), nite_pos (by rw [len_d]; omega)]
  exact ⟨rfl, _, rfl, h3.e2, h3.ent, hlast, h3.none⟩

theorem entryP_ok {e : Entry} (h : entryP e = true) : ok e := by
  unfold entryP at h
  simp only [Bool.and_eq_true, decide_eq_true_eq] at h
  have z : ok (0 : Int) := ok_num (by omega) (by omega)
  refine ⟨ok_rng h.1.1 (by omega) (by omega), ?_, ok_rng h.1.2 (by omega) (by omega)⟩
  have h2 := h.2
  split at h2
  · unfold addrP at h2
    simp only [Bool.and_eq_true, decide_eq_true_eq] at h2
    exact ⟨ok_rng h2.1.1 (by omega) (by omega), ok_rng h2.1.2 (by omega) (by omega), ok_rng h2.2 (by omega) (by omega)⟩
  · rw [of_decide_eq_true h2]; exact ⟨z, z, z⟩

end D
end Go.Sh
set_option linter.unusedVariables false
set_option linter.unusedSimpArgs false
set_option synthInstance.maxSize 100000
set_option maxHeartbeats 4000000
namespace Go.Sh
open Go Data
namespace D
end D
end Go.Sh
set_option linter.unusedVariables false
set_option linter.unusedSimpArgs false
set_option synthInstance.maxSize 100000
set_option maxHeartbeats 4000000
namespace Go.Sh
open Go Data
namespace D
end D
end Go.Sh
set_option linter.unusedVariables false
set_option linter.unusedSimpArgs false
set_option synthInstance.maxSize 100000
set_option maxHeartbeats 4000000
namespace Go.Sh
open Go Data
namespace D
end D
end Go.Sh
set_option linter.unusedVariables false
set_option linter.unusedSimpArgs false
set_option synthInstance.maxSize 100000
set_option maxHeartbeats 4000000
namespace Go.Sh
open Go Data
namespace D
end D
end Go.Sh
set_option linter.unusedVariables false
set_option linter.unusedSimpArgs false
set_option synthInstance.maxSize 100000
set_option maxHeartbeats 4000000
namespace Go.Sh
open Go Data
namespace D
end D
end Go.Sh
set_option linter.unusedVariables false
set_option linter.unusedSimpArgs false
set_option synthInstance.maxSize 100000
set_option maxHeartbeats 4000000
namespace Go.Sh
open Go Data
namespace D
end D
end Go.Sh
set_option linter.unusedVariables false
set_option linter.unusedSimpArgs false
set_option synthInstance.maxSize 100000
set_option maxHeartbeats 4000000
namespace Go.Sh
open Go Data
namespace D
/-! ## A recording plays as it was recorded -/
abbrev VS : Type := List Entry × List State × (Int × List Int × List Int × List Int)

abbrev PS : Type := List State × Int × (Int × Int × Int × List Int × List Int × List Int) × (Int × List Int × List Int × List Int)

theorem rec_ask {l : List Op} {v : Visit} {s : VS} (hs : Rec v s) (hsc : scriptP l = true) (hd : ¬ (l.length : Int) ≤ s.2.2.1) (hw : 0 < (wantP l s.2.2).1) {x : Int} (hx : 0 ≤ x ∧ x ≤ 999) {t : State} (ht : stateP t = true ∧ s.2.2.1 < t.1) :
    Rec v (s.1 ++ [((wantP l s.2.2).1, (wantP l s.2.2).2, x)], s.2.1 ++ [t], t) := by
  obtain ⟨hst, q1, q2, q3, q4, q5, q6⟩ := hs
  have hc := can_of hsc hst hd
  have h16 := scriptP_len hsc
  have hp := state_pos hst
  have hp2 := state_pos ht.1
  have hlt := ht.2
  refine ⟨ht.1, by simp; omega, by simp; omega, fun e he => ?_, by simp; omega, by simp, fun u hu => ?_⟩
  · rcases List.mem_append.1 he with he | he
    · exact q3 e he
    · simp only [List.mem_singleton] at he; subst he; exact want_addr hc rfl hw hx
  · rcases List.mem_append.1 hu with hu | hu
    · exact q6 u hu
    · simp only [List.mem_singleton] at hu; subst hu; exact ht.1

theorem rec_skip {v : Visit} {s : VS} (hs : Rec v s) {t : State} (ht : stateP t = true ∧ s.2.2.1 < t.1) : Rec v (s.1, s.2.1 ++ [t], t) := by
  obtain ⟨hst, q1, q2, q3, q4, q5, q6⟩ := hs
  have hlt := ht.2
  refine ⟨ht.1, by simp only; omega, q2, q3, by simp; omega, by simp, fun u hu => ?_⟩
  rcases List.mem_append.1 hu with hu | hu
  · exact q6 u hu
  · simp only [List.mem_singleton] at hu; subst hu; exact ht.1

end D
end Go.Sh
set_option linter.unusedVariables false
set_option linter.unusedSimpArgs false
set_option synthInstance.maxSize 100000
set_option maxHeartbeats 4000000
namespace Go.Sh
open Go Data
namespace D
end D
end Go.Sh
set_option linter.unusedVariables false
set_option linter.unusedSimpArgs false
set_option synthInstance.maxSize 100000
set_option maxHeartbeats 4000000
namespace Go.Sh
open Go Data
namespace D
end D
end Go.Sh
set_option linter.unusedVariables false
set_option linter.unusedSimpArgs false
set_option synthInstance.maxSize 100000
set_option maxHeartbeats 4000000
namespace Go.Sh
open Go Data
namespace D
/-! ## Scripts, sites and visits that are drawn -/
theorem op0 : ok ((0, 0, 0, 0) : Op) := by
  have z : ok (0 : Int) := ok_num (by omega) (by omega)
  exact ⟨z, z, z, z⟩

theorem spec_l10Op_is {c : l1Cur} (h : curOk c) : Gets (fun r => ok r.1 ∧ curOk r.2) (spec_l10Op c) := by
  have z : ok (0 : Int) := ok_num (by omega) (by omega)
  have o : ok (1 : Int) := ok_num (by omega) (by omega)
  refine Gets.bind (spec_l1Below_is h (by omega)) fun r1 ⟨_, h1⟩ => Gets.bind (spec_l1Below_is h1 (by omega)) fun r2 ⟨a2, h2⟩ => Gets.bind (spec_l1Once_is h2 (by omega)) fun r3 h3 => ?_
  have k2 : ok r2.1 := ok_below a2 (by omega)
  have k1 : ok (N.add .i64 1 r1.1) := ok_add _ _
  refine Gets.cond (fun _ => Gets.bind (spec_l1Below_is h3 (by omega)) fun r4 ⟨a4, h4⟩ => Gets.bind (spec_l1Below_is h4 (by omega)) fun r5 ⟨a5, h5⟩ => Gets.pure ⟨⟨o, k2, ok_add _ _, ok_below a5 (by omega)⟩, h5⟩) fun _ => ?_
  refine Gets.cond (fun _ => Gets.bind (spec_l1Below_is h3 (by omega)) fun r4 ⟨a4, h4⟩ => Gets.bind (spec_l1Below_is h4 (by omega)) fun r5 ⟨a5, h5⟩ => Gets.pure ⟨⟨k1, k2, ok_add _ _, ok_below a5 (by omega)⟩, h5⟩) fun _ => ?_
  refine Gets.cond (fun _ => Gets.bind (spec_l1Below_is h3 (by omega)) fun r4 ⟨a4, h4⟩ => Gets.bind (spec_l1Below_is h4 (by omega)) fun r5 ⟨a5, h5⟩ => Gets.pure ⟨⟨k1, k2, ok_below a4 (by omega), ok_below a5 (by omega)⟩, h5⟩) fun _ => ?_
  refine Gets.cond (fun _ => Gets.bind (spec_l1Below_is h3 (by omega)) fun r4 ⟨a4, h4⟩ => Gets.pure ⟨⟨k1, k2, ok_below a4 (by omega), z⟩, h4⟩) fun _ => ?_
  refine Gets.cond (fun _ => Gets.bind (spec_l1Below_is h3 (by omega)) fun r4 ⟨a4, h4⟩ => Gets.pure ⟨⟨k1, k2, ok_add _ _, z⟩, h4⟩) fun _ => ?_
  refine Gets.cond (fun _ => Gets.cond (fun _ => Gets.bind (spec_l1Below_is h3 (by omega)) fun r4 ⟨a4, h4⟩ => Gets.pure ⟨⟨k1, k2, ok_below a4 (by omega), z⟩, h4⟩) fun _ => Gets.pure ⟨⟨k1, k2, z, z⟩, h3⟩) fun _ => ?_
  exact Gets.cond (fun _ => Gets.bind (spec_l1Below_is h3 (by omega)) fun r4 ⟨a4, h4⟩ => Gets.pure ⟨⟨k1, k2, ok_below a4 (by omega), z⟩, h4⟩) fun _ => Gets.pure ⟨⟨k1, k2, z, z⟩, h3⟩

theorem spec_l10Draw_is {c : l1Cur} (h : curOk c) : Gets (fun r => few 13 r.1 ∧ curOk r.2) (spec_l10Draw c) := by
  refine Gets.bind (spec_l1Below_is h (n := 13) (by omega)) fun r ⟨h1, h2⟩ => ?_
  refine Gets.fill (K := curOk) (m := 13) (by omega) (fun xs n c hc h0 h9 hx => ?_) (fun xs n c hn => ?_) h1.1 (by omega) h2
  · refine Gets.cond (fun _ => ?_) fun hf => ?_
    · exact Gets.bind (spec_l10Op_is hc) fun r2 ⟨h3, h4⟩ => Gets.ite (fitsN (by have := hx.1; simp; omega) (by omega)) (Gets.pure ⟨_, _, rfl, h3, h4⟩)
    · simp only [gt_d, decide_eq_false_iff_not] at hf; omega
  · simp only [gt_d, cond_dec]; rw [if_neg (by omega)]

theorem spec_l10Any_is {c : l1Cur} (h : curOk c) : Gets (fun r => few 17 r.1 ∧ curOk r.2) (spec_l10Any c) := by
  refine Gets.bind (spec_l10Draw_is h) fun r ⟨h1, h2⟩ => Gets.cond (fun _ => Gets.pure ⟨few.mono h1 (by omega), h2⟩) fun hn => ?_
  have hl : 0 < N.len r.1 := by
    simp only [eq_d, len_d, decide_eq_false_iff_not] at hn
    rw [len_d]; omega
  have f : few 17 r.1 := few.mono h1 (by omega)
  refine Gets.bind (spec_l1Below_is h2 hl) fun r2 ⟨⟨b1, b2⟩, h3⟩ => Gets.bind (spec_l1Below_is h3 (by omega)) fun r3 ⟨_, h4⟩ => ?_
  obtain ⟨e1, e2, e3, e4⟩ : ok (N.rd r.1 r2.1 (0, 0, 0, 0)) := f.rd op0
  refine Gets.cond (fun _ => Gets.bind (spec_l1Int_is h4 (by simp) (by simp [ok])) fun r4 ⟨g, h5⟩ => Gets.ite b1 (Gets.ite b2 (Gets.let_ (Gets.pure ⟨f.set ⟨g.1, e2, e3, e4⟩, h5⟩)))) fun _ => ?_
  refine Gets.cond (fun _ => Gets.bind (spec_l1Int_is h4 (by simp) (by simp [ok])) fun r4 ⟨g, h5⟩ => Gets.ite b1 (Gets.ite b2 (Gets.let_ (Gets.pure ⟨f.set ⟨e1, g.1, e3, e4⟩, h5⟩)))) fun _ => ?_
  refine Gets.cond (fun _ => Gets.bind (spec_l4Raw_is h4) fun r4 ⟨g, h5⟩ => Gets.ite b1 (Gets.ite b2 (Gets.let_ (Gets.pure ⟨f.set ⟨e1, e2, g, e4⟩, h5⟩)))) fun _ => ?_
  refine Gets.cond (fun _ => Gets.bind (spec_l4Raw_is h4) fun r4 ⟨g, h5⟩ => Gets.ite b1 (Gets.ite b2 (Gets.let_ (Gets.pure ⟨f.set ⟨e1, e2, e3, g⟩, h5⟩)))) fun _ => ?_
  refine Gets.cond (fun _ => ?_) fun _ => Gets.pure ⟨f, h4⟩
  refine Gets.loop (I := fun xs => few 17 xs) (m := fun xs => 17 - xs.length) (fun xs hx => ?_) _ f
  refine Gets.cond (fun hlt => ?_) fun _ => Gets.pure ⟨hx, h4⟩
  have hlt' : xs.length < 17 := by simp only [lt_d, len_d, decide_eq_true_eq] at hlt; omega
  have o : ok ((2, 0, 0, 0) : Op) := by
    have z : ok (0 : Int) := ok_num (by omega) (by omega)
    exact ⟨ok_num (by omega) (by omega), z, z, z⟩
  exact Gets.ite (fitsN (by simp; omega) (by omega)) (Gets.pure ⟨few.app (n := xs.length) ⟨Nat.le_refl _, hx.2⟩ o (by omega), by simp [N.app]; omega⟩)

theorem spec_l9Draw_is {c : l1Cur} (h : curOk c) : Gets (fun r => few 9 r.1 ∧ curOk r.2) (spec_l9Draw c) := by
  refine Gets.bind (spec_l1Below_is h (n := 9) (by omega)) fun r ⟨h1, h2⟩ => ?_
  refine Gets.fill (K := curOk) (m := 9) (by omega) (fun xs n c hc h0 h9 hx => ?_) (fun xs n c hn => ?_) h1.1 (by omega) h2
  · refine Gets.cond (fun _ => ?_) fun hf => ?_
    · refine Gets.bind (spec_l4Draw_is hc) fun r2 ⟨h3, h4⟩ => Gets.bind (spec_l1Below_is h4 (n := 12) (by omega)) fun r3 ⟨h5, h6⟩ => Gets.bind (spec_l5Draw_is h6) fun r4 ⟨⟨a1, a2, a3, a4, a5⟩, h8⟩ =>
        Gets.ite (fitsN (by have := hx.1; simp; omega) (by omega)) (Gets.pure ⟨_, _, rfl, ⟨h3, ok_below h5 (by omega), a1, a2.ok (by omega), a3, a4, a5⟩, h8⟩)
    · simp only [gt_d, decide_eq_false_iff_not] at hf; omega
  · simp only [gt_d, cond_dec]; rw [if_neg (by omega)]

def VisG (r : List Version × Int × Int × List Int × l1Cur) : Prop := few 9 r.1 ∧ ok r.2.1 ∧ ok r.2.2.1 ∧ few 9 r.2.2.2.1 ∧ curOk r.2.2.2.2

theorem spec_l12Draw_is {c : l1Cur} (h : curOk c) : Gets (fun r => few 9 r.1 ∧ ok r.2.1 ∧ ok r.2.2.1 ∧ few 4 r.2.2.2.1 ∧ curOk r.2.2.2.2) (spec_l12Draw c) := by
  refine Gets.bind (spec_l9Draw_is h) fun r1 ⟨a1, h1⟩ => Gets.bind (spec_l1Below_is h1 (by omega)) fun r2 ⟨a2, h2⟩ => Gets.bind (spec_l1Below_is h2 (by omega)) fun r3 ⟨a3, h3⟩ => Gets.bind (spec_l1Below_is h3 (by omega)) fun r4 ⟨a4, h4⟩ => ?_
  refine Gets.loop (I := fun s : Int × (List Int × Int × Int) × (List Version × Int × Int × List Int) => 0 ≤ s.1 ∧ curOk s.2.1 ∧ few 9 s.2.2.1 ∧ ok s.2.2.2.1 ∧ ok s.2.2.2.2.1 ∧ (s.2.2.2.2.2.length : Int) + s.1 ≤ 4 ∧ ∀ x ∈ s.2.2.2.2.2, ok x) (m := fun s => s.1.toNat) (fun s hs => ?_) _ ⟨a4.1, h4, a1, ok_below a2 (by omega), ok_below a3 (by omega), by simp; omega, fun _ h => (by cases h)⟩
  obtain ⟨i0, i1, i2, i3, i4, i5, i6⟩ := hs
  refine Gets.cond (fun hg => ?_) fun _ => Gets.pure ⟨i2, i3, i4, ⟨by simp only; omega, i6⟩, i1⟩
  have hg' : 0 < s.1 := by simpa [gt_d] using hg
  have hn : N.sub .i64 s.1 1 = s.1 - 1 := sub_id (by omega) (by omega)
  refine Gets.bind (spec_l1Below_is i1 (by omega)) fun r5 ⟨a5, h5⟩ => Gets.ite (fitsN (by simp; omega) (by omega)) (Gets.pure ⟨⟨by simp only [hn]; omega, h5, i2, i3, i4, by simp [N.app, hn]; omega, fun x hx => ?_⟩, by simp only [hn]; omega⟩)
  rcases List.mem_append.1 hx with hx | hx
  · exact i6 x hx
  · simp only [List.mem_singleton] at hx; subst hx; exact ok_below a5 (by omega)

end D
end Go.Sh
set_option linter.unusedVariables false
set_option linter.unusedSimpArgs false
set_option synthInstance.maxSize 100000
set_option maxHeartbeats 4000000
namespace Go.Sh
open Go Data
namespace D
/-! ## What a container plays -/
theorem record_of {l : List Op} {v : Visit} (hl : ok l) (hv : ok v) {q : List Entry × Int × List Int × List Int × List Int} (h : spec_RecordVisit l v = some q) : ∃ T : List State, impl_visited l v = some (q.1, T) ∧ T.getLast? = some q.2 := by
  obtain ⟨h1, r, h2, h3⟩ := visited_is hl hv
  have t0 := h3.tr0; have tl := h3.trl
  have e : N.sub .i64 (N.len r.2) 1 = ((r.2.length - 1 : Nat) : Int) := by rw [len_d, sub_id (by omega) (by omega)]; omega
  have hrd : N.rd r.2 ((r.2.length - 1 : Nat) : Int) (0, [], [], []) = r.2[r.2.length - 1] := rd_at r.2 (r.2.length - 1) (by omega) _
  have hlast : stateP (r.2[r.2.length - 1]) = true := h3.tr _ (List.getElem_mem _)
  unfold spec_RecordVisit at h
  rw [h2, bind_some', e, nite_pos (by omega), nite_pos (by rw [len_d]; omega), hrd, spec_l11Copy_is (state_ok hlast), bind_some'] at h
  simp only [Option.some.injEq] at h
  subst h
  exact ⟨r.2, by rw [h1, h2], by rw [List.getLast?_eq_getElem?, List.getElem?_eq_getElem (by omega)]⟩

end D
end Go.Sh
set_option linter.unusedVariables false
set_option linter.unusedSimpArgs false
set_option synthInstance.maxSize 100000
set_option maxHeartbeats 4000000
namespace Go.Sh
open Go Data
namespace D
end D
end Go.Sh
set_option linter.unusedVariables false
set_option linter.unusedSimpArgs false
set_option synthInstance.maxSize 100000
set_option maxHeartbeats 4000000
namespace Go.Sh
open Go Data
namespace D
end D
end Go.Sh
set_option linter.unusedVariables false
set_option linter.unusedSimpArgs false
set_option maxRecDepth 100000
set_option maxHeartbeats 4000000
namespace Go.Sh
open Go Data
namespace D
end D
end Go.Sh
set_option linter.unusedVariables false
set_option linter.unusedSimpArgs false
set_option synthInstance.maxSize 100000
set_option maxHeartbeats 4000000
namespace Go.Sh
open Go Data
theorem Gets.both {α : Type} {P Q : α → Prop} {x : Option α} (h1 : Gets P x) (h2 : Gets Q x) : Gets (fun a => P a ∧ Q a) x := by
  obtain ⟨a, rfl, h⟩ := h1
  obtain ⟨b, e, h'⟩ := h2
  simp only [Option.some.injEq] at e
  subst e
  exact ⟨_, rfl, h, h'⟩

namespace D
def digits (b : List Int) : Prop := b.length ≤ 4 ∧ ∀ v ∈ b, 0 ≤ v ∧ v ≤ 8

end D
end Go.Sh
set_option linter.unusedVariables false
set_option linter.unusedSimpArgs false
set_option synthInstance.maxSize 100000
set_option maxHeartbeats 4000000
namespace Go.Sh
open Go Data
namespace D
end D
end Go.Sh
set_option linter.unusedVariables false
set_option linter.unusedSimpArgs false
namespace Go.Sh.D
open Go
structure Ordr (le lt : Int → Int → Bool) : Prop where
  total : ∀ a b, (le a b || le b a) = true
  trans : ∀ a b c, le a b = true → le b c = true → le a c = true
  anti : ∀ a b, le a b = true → le b a = true → a = b
  agree : ∀ a b, le a b = true → lt b a = false

/-- x stands before y: the comparison tells their order -/
def Qp (le lt : Int → Int → Bool) (x y : Int) : Prop := le x y = true ∨ lt y x = true

theorem Ordr.rep {le lt : Int → Int → Bool} {P U U' S : List Int} (hq : (P ++ U ++ S).Pairwise (Qp le lt)) (hp : U'.Perm U) (hs : U'.Pairwise fun a b => le a b = true) : (P ++ U' ++ S).Pairwise (Qp le lt) := by
  simp only [List.pairwise_append, List.mem_append] at hq ⊢
  obtain ⟨⟨h1, h2, h3⟩, h4, h5⟩ := hq
  exact ⟨⟨h1, hs.imp fun h => .inl h, fun a ha b hb => h3 a ha b (hp.mem_iff.1 hb)⟩, h4, fun a ha b hb => h5 a (ha.imp id hp.mem_iff.1) b hb⟩

end Go.Sh.D
set_option linter.unusedVariables false
set_option linter.unusedSimpArgs false
namespace Go.Sh.D
open Go
end Go.Sh.D
set_option linter.unusedVariables false
set_option linter.unusedSimpArgs false
namespace Go.Sh.D
open Go
end Go.Sh.D
set_option linter.unusedVariables false
set_option linter.unusedSimpArgs false
namespace Go.Sh.D
open Go
end Go.Sh.D
set_option linter.unusedVariables false
set_option linter.unusedSimpArgs false
namespace Go.Sh.D
open Go
end Go.Sh.D
set_option linter.unusedVariables false
set_option linter.unusedSimpArgs false
namespace Go.Sh.D
open Go
end Go.Sh.D
set_option linter.unusedVariables false
set_option linter.unusedSimpArgs false
namespace Go.Sh.D
open Go
end Go.Sh.D
set_option linter.unusedVariables false
set_option linter.unusedSimpArgs false
namespace Go.Sh.D
open Go
end Go.Sh.D
set_option linter.unusedVariables false
set_option linter.unusedSimpArgs false
namespace Go.Sh.D
open Go
end Go.Sh.D
set_option linter.unusedVariables false
set_option linter.unusedSimpArgs false
namespace Go.Sh.D
open Go Data
end Go.Sh.D
set_option linter.unusedVariables false
set_option linter.unusedSimpArgs false
namespace Go.Sh.D
open Go Data
end Go.Sh.D
set_option linter.unusedVariables false
set_option linter.unusedSimpArgs false
namespace Go.Sh.D
open Go Data
end Go.Sh.D
