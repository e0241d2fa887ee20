/- The native forms of the functions that FnKept reaches, and their pure laws, part 1: FnKept is true for every input of bounded parts. No condition beyond the bounds that every input keeps. -/
import Derived.Test.YtekclbjiifiahabSh9
set_option linter.unusedVariables false
set_option maxRecDepth 100000
set_option maxHeartbeats 4000000
namespace Go.Sh
open Go
namespace N
def nostr : ByteArray := ByteArray.empty
def lit (l : List UInt8) : ByteArray := ⟨l.toArray⟩
def let_ {α R : Type} (x : α) (f : α → Option R) : Option R := f x
end N
namespace D
abbrev l1Cur : Type := (List Int) × Int × Int
abbrev Library : Type := Int × (List Int) × Bool × Bool
noncomputable def impl_InRange (x0 : Int) (x1 : Int) (x2 : Int) : Option (Bool) :=
  N.cond (N.le x1 x0)
    (some (N.le x0 x2))
    (some false)

noncomputable def impl_Mod (x0 : Int) (x1 : Int) : Option (Int) :=
  N.bind (impl_InRange x1 1 1000000000000) fun r1 =>
    N.cond (N.not r1)
      (some 0)
      (
        N.ite (x1 = 0)
          none
          (
            N.ite (x1 = 0)
              none
              (some (N.rem (N.add .i64 (N.rem x0 x1) x1) x1))))

noncomputable def impl_Hash (x0 : List Int) : Option (Int) :=
  loopF (fun (s1 : Int × Int) =>
      N.cond (N.lt s1.2 (N.len x0))
        (
          N.ite (0 ≤ s1.2)
            (
              N.ite (s1.2 < N.len x0)
                (
                  N.bind (impl_Mod (N.rd x0 s1.2 0) 2147483647) fun r1 =>
                    some (.inl (N.rem (N.add .i64 (N.add .i64 (N.mul .i64 s1.1 1000003) r1) 13) 2147483647, N.add .i64 s1.2 1)))
                none)
            none)
        (some (.inr s1.1)))
    (11, 0)

noncomputable def laws_big (x0 : List Int) : Option (Bool) :=
  some (N.gt (N.len x0) 1048576)

noncomputable def spec_l1New (x0 : List Int) : Option (l1Cur) :=
  loopF (fun (s1 : Int × Int) =>
      N.cond (N.lt s1.2 (N.len x0))
        (
          N.cond (N.lt s1.2 4000)
            (
              N.ite (0 ≤ s1.2)
                (
                  N.ite (s1.2 < N.len x0)
                    (some (.inl (N.and .i64 (N.add .i64 (N.add .i64 (N.mul .i64 s1.1 137) (N.conv .i64 (N.rd x0 s1.2 0))) 11) 1073741823, N.add .i64 s1.2 1)))
                    none)
                none)
            (some (.inr (x0, 0, s1.1))))
        (some (.inr (x0, 0, s1.1))))
    (N.add .i64 193017 (N.len x0), 0)

noncomputable def spec_l1Byte (x0 : l1Cur) : Option (Int × l1Cur) :=
  N.cond (N.lt x0.2.1 (N.len x0.1))
    (
      N.ite (0 ≤ x0.2.1)
        (
          N.ite (x0.2.1 < N.len x0.1)
            (some (N.and .i64 (N.add .i64 (N.and .i64 (N.xor .i64 (N.shr .i64 (N.add .i64 (N.mul .i64 x0.2.2 6364136223846793005) 1442695040888963407) 33) (N.shr .i64 (N.add .i64 (N.mul .i64 x0.2.2 6364136223846793005) 1442695040888963407) 47)) 255) (N.conv .i64 (N.rd x0.1 x0.2.1 0))) 255, (x0.1, N.add .i64 x0.2.1 1, N.add .i64 (N.mul .i64 x0.2.2 6364136223846793005) 1442695040888963407)))
            none)
        none)
    (some (N.and .i64 (N.xor .i64 (N.shr .i64 (N.add .i64 (N.mul .i64 x0.2.2 6364136223846793005) 1442695040888963407) 33) (N.shr .i64 (N.add .i64 (N.mul .i64 x0.2.2 6364136223846793005) 1442695040888963407) 47)) 255, (x0.1, x0.2.1, N.add .i64 (N.mul .i64 x0.2.2 6364136223846793005) 1442695040888963407)))

noncomputable def spec_l1Below (x0 : l1Cur) (x1 : Int) : Option (Int × l1Cur) :=
  N.cond (N.le x1 0)
    (some (0, x0))
    (
      N.cond (N.le x1 256)
        (
          N.bind (spec_l1Byte x0) fun r1 =>
            N.ite (x1 = 0)
              none
              (some (N.rem r1.1 x1, r1.2)))
        (
          N.bind (spec_l1Byte x0) fun r2 =>
            N.bind (spec_l1Byte r2.2) fun r3 =>
              N.bind (spec_l1Byte r3.2) fun r4 =>
                N.ite (x1 = 0)
                  none
                  (some (N.rem (N.add .i64 (N.add .i64 (N.mul .i64 r2.1 65536) (N.mul .i64 r3.1 256)) r4.1) x1, r4.2))))

noncomputable def spec_l1Int (x0 : l1Cur) (x1 : List Int) : Option (Int × l1Cur) :=
  N.bind (spec_l1Below x0 (N.len x1)) fun r1 =>
    N.ite (0 ≤ r1.1)
      (
        N.ite (r1.1 < N.len x1)
          (some (N.rd x1 r1.1 0, r1.2))
          none)
      none

noncomputable def spec_l4Raw (x0 : l1Cur) : Option (Int × l1Cur) :=
  N.bind (spec_l1Int x0 [(-1), 0, 9, 10, 99, 100, 9223372036854775807, (-9223372036854775808)]) fun r1 =>
    some r1

noncomputable def impl_sorted (x0 : List Int) : Option (List Int) :=
  N.ite (N.len x0 * 8 ≤ 140737488355328)
    (some (N.uniq x0))
    none

noncomputable def impl_RankOf (x0 : Int) (x1 : Int) : Option (Int) :=
  N.bind (impl_Hash [x0, x1]) fun r1 =>
    N.bind (impl_Mod r1 1000000) fun r2 =>
      some r2

noncomputable def cmp_isNaN_int (x0 : Int) : Option (Bool) :=
  some (N.ne x0 x0)

noncomputable def cmp_Compare_int (x0 : Int) (x1 : Int) : Option (Int) :=
  N.bind (cmp_isNaN_int x0) fun r1 =>
    N.bind (cmp_isNaN_int x1) fun r2 =>
      N.cond r1
        (
          N.cond r2
            (some 0)
            (some (-1)))
        (
          N.cond r2
            (some 1)
            (
              N.cond (N.lt x0 x1)
                (some (-1))
                (
                  N.cond (N.gt x0 x1)
                    (some 1)
                    (some 0))))

noncomputable def impl_OrderFor_1 (x0 : Int) (x1 : Int) (x2 : Int) : Option (Int) :=
  N.bind (impl_RankOf x2 x1) fun r1 =>
    N.bind (impl_RankOf x2 x0) fun r2 =>
      N.bind (cmp_Compare_int r1 r2) fun r3 =>
        some r3

noncomputable def slices_insertionSortCmpFunc_int_impl_OrderFor_1 (x0 : List Int) (x1 : Int) (x2 : Int) (x3 : Int) : Option (List Int) :=
  loopF (fun (s1 : Int × List Int) =>
      N.cond (N.lt s1.1 x2)
        (
          loopF (fun (s2 : Int × List Int) =>
              N.cond (N.gt s2.1 x1)
                (
                  N.ite (0 ≤ s2.1)
                    (
                      N.ite (s2.1 < N.len s2.2)
                        (
                          N.ite (0 ≤ N.sub .i64 s2.1 1)
                            (
                              N.ite (N.sub .i64 s2.1 1 < N.len s2.2)
                                (
                                  N.bind (impl_OrderFor_1 (N.rd s2.2 s2.1 0) (N.rd s2.2 (N.sub .i64 s2.1 1) 0) x3) fun r1 =>
                                    N.cond (N.lt r1 0)
                                      (
                                        N.ite (0 ≤ N.sub .i64 s2.1 1)
                                          (
                                            N.ite (N.sub .i64 s2.1 1 < N.len s2.2)
                                              (
                                                N.ite (0 ≤ s2.1)
                                                  (
                                                    N.ite (s2.1 < N.len s2.2)
                                                      (
                                                        N.ite (0 ≤ s2.1)
                                                          (
                                                            N.ite (s2.1 < N.len s2.2)
                                                              (
                                                                N.let_ (N.set s2.2 s2.1 (N.rd s2.2 (N.sub .i64 s2.1 1) 0)) fun v1 =>
                                                                  N.ite (0 ≤ N.sub .i64 s2.1 1)
                                                                    (
                                                                      N.ite (N.sub .i64 s2.1 1 < N.len v1)
                                                                        (
                                                                          N.let_ (N.set v1 (N.sub .i64 s2.1 1) (N.rd s2.2 s2.1 0)) fun v2 =>
                                                                            some (.inl (N.sub .i64 s2.1 1, v2)))
                                                                        none)
                                                                    none)
                                                              none)
                                                          none)
                                                      none)
                                                  none)
                                              none)
                                          none)
                                      (some (.inr (.inl (N.add .i64 s1.1 1, s2.2)))))
                                none)
                            none)
                        none)
                    none)
                (some (.inr (.inl (N.add .i64 s1.1 1, s2.2)))))
            s1)
        (some (.inr s1.2)))
    (N.add .i64 x1 1, x0)

noncomputable def slices_swapRangeCmpFunc_int_impl_OrderFor_1 (x0 : List Int) (x1 : Int) (x2 : Int) (x3 : Int) (x4 : Int) : Option (List Int) :=
  loopF (fun (s1 : Int × List Int) =>
      N.cond (N.lt s1.1 x3)
        (
          N.ite (0 ≤ N.add .i64 x2 s1.1)
            (
              N.ite (N.add .i64 x2 s1.1 < N.len s1.2)
                (
                  N.ite (0 ≤ N.add .i64 x1 s1.1)
                    (
                      N.ite (N.add .i64 x1 s1.1 < N.len s1.2)
                        (
                          N.ite (0 ≤ N.add .i64 x1 s1.1)
                            (
                              N.ite (N.add .i64 x1 s1.1 < N.len s1.2)
                                (
                                  N.let_ (N.set s1.2 (N.add .i64 x1 s1.1) (N.rd s1.2 (N.add .i64 x2 s1.1) 0)) fun v1 =>
                                    N.ite (0 ≤ N.add .i64 x2 s1.1)
                                      (
                                        N.ite (N.add .i64 x2 s1.1 < N.len v1)
                                          (
                                            N.let_ (N.set v1 (N.add .i64 x2 s1.1) (N.rd s1.2 (N.add .i64 x1 s1.1) 0)) fun v2 =>
                                              some (.inl (N.add .i64 s1.1 1, v2)))
                                          none)
                                      none)
                                none)
                            none)
                        none)
                    none)
                none)
            none)
        (some (.inr s1.2)))
    (0, x0)

noncomputable def slices_rotateCmpFunc_int_impl_OrderFor_1 (x0 : List Int) (x1 : Int) (x2 : Int) (x3 : Int) (x4 : Int) : Option (List Int) :=
  loopF (fun (s1 : Int × Int × List Int) =>
      N.cond (N.ne s1.1 s1.2.1)
        (
          N.cond (N.gt s1.1 s1.2.1)
            (
              N.bind (slices_swapRangeCmpFunc_int_impl_OrderFor_1 s1.2.2 (N.sub .i64 x2 s1.1) x2 s1.2.1 x4) fun r1 =>
                some (.inl (N.sub .i64 s1.1 s1.2.1, s1.2.1, r1)))
            (
              N.bind (slices_swapRangeCmpFunc_int_impl_OrderFor_1 s1.2.2 (N.sub .i64 x2 s1.1) (N.sub .i64 (N.add .i64 x2 s1.2.1) s1.1) s1.1 x4) fun r2 =>
                some (.inl (s1.1, N.sub .i64 s1.2.1 s1.1, r2))))
        (
          Option.map Sum.inr
            (
              N.bind (slices_swapRangeCmpFunc_int_impl_OrderFor_1 s1.2.2 (N.sub .i64 x2 s1.1) x2 s1.1 x4) fun r3 =>
                some r3)))
    (N.sub .i64 x2 x1, N.sub .i64 x3 x2, x0)

noncomputable def slices_symMergeCmpFunc_int_impl_OrderFor_1_f : Nat → (List Int) → Int → Int → Int → Int → Option (List Int)
  | 0, _, _, _, _, _ => none
  | n + 1, x0, x1, x2, x3, x4 =>
    N.cond (N.eq (N.sub .i64 x2 x1) 1)
      (
        loopF (fun (s1 : Int × Int) =>
            N.cond (N.lt s1.1 s1.2)
              (
                N.ite (0 ≤ N.conv .i64 (N.shr .u64 (N.conv .u64 (N.add .i64 s1.1 s1.2)) 1))
                  (
                    N.ite (N.conv .i64 (N.shr .u64 (N.conv .u64 (N.add .i64 s1.1 s1.2)) 1) < N.len x0)
                      (
                        N.ite (0 ≤ x1)
                          (
                            N.ite (x1 < N.len x0)
                              (
                                N.bind (impl_OrderFor_1 (N.rd x0 (N.conv .i64 (N.shr .u64 (N.conv .u64 (N.add .i64 s1.1 s1.2)) 1)) 0) (N.rd x0 x1 0) x4) fun r1 =>
                                  N.cond (N.lt r1 0)
                                    (some (.inl (N.add .i64 (N.conv .i64 (N.shr .u64 (N.conv .u64 (N.add .i64 s1.1 s1.2)) 1)) 1, s1.2)))
                                    (some (.inl (s1.1, N.conv .i64 (N.shr .u64 (N.conv .u64 (N.add .i64 s1.1 s1.2)) 1)))))
                              none)
                          none)
                      none)
                  none)
              (
                Option.map Sum.inr
                  (
                    loopF (fun (s2 : Int × List Int) =>
                        N.cond (N.lt s2.1 (N.sub .i64 s1.1 1))
                          (
                            N.ite (0 ≤ N.add .i64 s2.1 1)
                              (
                                N.ite (N.add .i64 s2.1 1 < N.len s2.2)
                                  (
                                    N.ite (0 ≤ s2.1)
                                      (
                                        N.ite (s2.1 < N.len s2.2)
                                          (
                                            N.ite (0 ≤ s2.1)
                                              (
                                                N.ite (s2.1 < N.len s2.2)
                                                  (
                                                    N.let_ (N.set s2.2 s2.1 (N.rd s2.2 (N.add .i64 s2.1 1) 0)) fun v1 =>
                                                      N.ite (0 ≤ N.add .i64 s2.1 1)
                                                        (
                                                          N.ite (N.add .i64 s2.1 1 < N.len v1)
                                                            (
                                                              N.let_ (N.set v1 (N.add .i64 s2.1 1) (N.rd s2.2 s2.1 0)) fun v2 =>
                                                                some (.inl (N.add .i64 s2.1 1, v2)))
                                                            none)
                                                        none)
                                                  none)
                                              none)
                                          none)
                                      none)
                                  none)
                              none)
                          (some (.inr s2.2)))
                      (x1, x0))))
          (x2, x3))
      (
        N.cond (N.eq (N.sub .i64 x3 x2) 1)
          (
            loopF (fun (s3 : Int × Int) =>
                N.cond (N.lt s3.1 s3.2)
                  (
                    N.ite (0 ≤ x2)
                      (
                        N.ite (x2 < N.len x0)
                          (
                            N.ite (0 ≤ N.conv .i64 (N.shr .u64 (N.conv .u64 (N.add .i64 s3.1 s3.2)) 1))
                              (
                                N.ite (N.conv .i64 (N.shr .u64 (N.conv .u64 (N.add .i64 s3.1 s3.2)) 1) < N.len x0)
                                  (
                                    N.bind (impl_OrderFor_1 (N.rd x0 x2 0) (N.rd x0 (N.conv .i64 (N.shr .u64 (N.conv .u64 (N.add .i64 s3.1 s3.2)) 1)) 0) x4) fun r2 =>
                                      N.cond (N.not (N.lt r2 0))
                                        (some (.inl (N.add .i64 (N.conv .i64 (N.shr .u64 (N.conv .u64 (N.add .i64 s3.1 s3.2)) 1)) 1, s3.2)))
                                        (some (.inl (s3.1, N.conv .i64 (N.shr .u64 (N.conv .u64 (N.add .i64 s3.1 s3.2)) 1)))))
                                  none)
                              none)
                          none)
                      none)
                  (
                    Option.map Sum.inr
                      (
                        loopF (fun (s4 : Int × List Int) =>
                            N.cond (N.gt s4.1 s3.1)
                              (
                                N.ite (0 ≤ N.sub .i64 s4.1 1)
                                  (
                                    N.ite (N.sub .i64 s4.1 1 < N.len s4.2)
                                      (
                                        N.ite (0 ≤ s4.1)
                                          (
                                            N.ite (s4.1 < N.len s4.2)
                                              (
                                                N.ite (0 ≤ s4.1)
                                                  (
                                                    N.ite (s4.1 < N.len s4.2)
                                                      (
                                                        N.let_ (N.set s4.2 s4.1 (N.rd s4.2 (N.sub .i64 s4.1 1) 0)) fun v3 =>
                                                          N.ite (0 ≤ N.sub .i64 s4.1 1)
                                                            (
                                                              N.ite (N.sub .i64 s4.1 1 < N.len v3)
                                                                (
                                                                  N.let_ (N.set v3 (N.sub .i64 s4.1 1) (N.rd s4.2 s4.1 0)) fun v4 =>
                                                                    some (.inl (N.sub .i64 s4.1 1, v4)))
                                                                none)
                                                            none)
                                                      none)
                                                  none)
                                              none)
                                          none)
                                      none)
                                  none)
                              (some (.inr s4.2)))
                          (x2, x0))))
              (x1, x2))
          (
            N.cond (N.gt x2 (N.conv .i64 (N.shr .u64 (N.conv .u64 (N.add .i64 x1 x3)) 1)))
              (
                loopF (fun (s5 : Int × Int) =>
                    N.cond (N.lt s5.1 s5.2)
                      (
                        N.ite (0 ≤ N.sub .i64 (N.sub .i64 (N.add .i64 (N.conv .i64 (N.shr .u64 (N.conv .u64 (N.add .i64 x1 x3)) 1)) x2) 1) (N.conv .i64 (N.shr .u64 (N.conv .u64 (N.add .i64 s5.1 s5.2)) 1)))
                          (
                            N.ite (N.sub .i64 (N.sub .i64 (N.add .i64 (N.conv .i64 (N.shr .u64 (N.conv .u64 (N.add .i64 x1 x3)) 1)) x2) 1) (N.conv .i64 (N.shr .u64 (N.conv .u64 (N.add .i64 s5.1 s5.2)) 1)) < N.len x0)
                              (
                                N.ite (0 ≤ N.conv .i64 (N.shr .u64 (N.conv .u64 (N.add .i64 s5.1 s5.2)) 1))
                                  (
                                    N.ite (N.conv .i64 (N.shr .u64 (N.conv .u64 (N.add .i64 s5.1 s5.2)) 1) < N.len x0)
                                      (
                                        N.bind (impl_OrderFor_1 (N.rd x0 (N.sub .i64 (N.sub .i64 (N.add .i64 (N.conv .i64 (N.shr .u64 (N.conv .u64 (N.add .i64 x1 x3)) 1)) x2) 1) (N.conv .i64 (N.shr .u64 (N.conv .u64 (N.add .i64 s5.1 s5.2)) 1))) 0) (N.rd x0 (N.conv .i64 (N.shr .u64 (N.conv .u64 (N.add .i64 s5.1 s5.2)) 1)) 0) x4) fun r3 =>
                                          N.cond (N.not (N.lt r3 0))
                                            (some (.inl (N.add .i64 (N.conv .i64 (N.shr .u64 (N.conv .u64 (N.add .i64 s5.1 s5.2)) 1)) 1, s5.2)))
                                            (some (.inl (s5.1, N.conv .i64 (N.shr .u64 (N.conv .u64 (N.add .i64 s5.1 s5.2)) 1)))))
                                      none)
                                  none)
                              none)
                          none)
                      (
                        Option.map Sum.inr
                          (
                            N.cond (N.lt s5.1 x2)
                              (
                                N.cond (N.lt x2 (N.sub .i64 (N.add .i64 (N.conv .i64 (N.shr .u64 (N.conv .u64 (N.add .i64 x1 x3)) 1)) x2) s5.1))
                                  (
                                    N.bind (slices_rotateCmpFunc_int_impl_OrderFor_1 x0 s5.1 x2 (N.sub .i64 (N.add .i64 (N.conv .i64 (N.shr .u64 (N.conv .u64 (N.add .i64 x1 x3)) 1)) x2) s5.1) x4) fun r4 =>
                                      N.cond (N.lt x1 s5.1)
                                        (
                                          N.cond (N.lt s5.1 (N.conv .i64 (N.shr .u64 (N.conv .u64 (N.add .i64 x1 x3)) 1)))
                                            (
                                              N.bind (slices_symMergeCmpFunc_int_impl_OrderFor_1_f n r4 x1 s5.1 (N.conv .i64 (N.shr .u64 (N.conv .u64 (N.add .i64 x1 x3)) 1)) x4) fun r5 =>
                                                N.cond (N.lt (N.conv .i64 (N.shr .u64 (N.conv .u64 (N.add .i64 x1 x3)) 1)) (N.sub .i64 (N.add .i64 (N.conv .i64 (N.shr .u64 (N.conv .u64 (N.add .i64 x1 x3)) 1)) x2) s5.1))
                                                  (
                                                    N.cond (N.lt (N.sub .i64 (N.add .i64 (N.conv .i64 (N.shr .u64 (N.conv .u64 (N.add .i64 x1 x3)) 1)) x2) s5.1) x3)
                                                      (
                                                        N.bind (slices_symMergeCmpFunc_int_impl_OrderFor_1_f n r5 (N.conv .i64 (N.shr .u64 (N.conv .u64 (N.add .i64 x1 x3)) 1)) (N.sub .i64 (N.add .i64 (N.conv .i64 (N.shr .u64 (N.conv .u64 (N.add .i64 x1 x3)) 1)) x2) s5.1) x3 x4) fun r6 =>
                                                          some r6)
                                                      (some r5))
                                                  (some r5))
                                            (
                                              N.cond (N.lt (N.conv .i64 (N.shr .u64 (N.conv .u64 (N.add .i64 x1 x3)) 1)) (N.sub .i64 (N.add .i64 (N.conv .i64 (N.shr .u64 (N.conv .u64 (N.add .i64 x1 x3)) 1)) x2) s5.1))
                                                (
                                                  N.cond (N.lt (N.sub .i64 (N.add .i64 (N.conv .i64 (N.shr .u64 (N.conv .u64 (N.add .i64 x1 x3)) 1)) x2) s5.1) x3)
                                                    (
                                                      N.bind (slices_symMergeCmpFunc_int_impl_OrderFor_1_f n r4 (N.conv .i64 (N.shr .u64 (N.conv .u64 (N.add .i64 x1 x3)) 1)) (N.sub .i64 (N.add .i64 (N.conv .i64 (N.shr .u64 (N.conv .u64 (N.add .i64 x1 x3)) 1)) x2) s5.1) x3 x4) fun r7 =>
                                                        some r7)
                                                    (some r4))
                                                (some r4)))
                                        (
                                          N.cond (N.lt (N.conv .i64 (N.shr .u64 (N.conv .u64 (N.add .i64 x1 x3)) 1)) (N.sub .i64 (N.add .i64 (N.conv .i64 (N.shr .u64 (N.conv .u64 (N.add .i64 x1 x3)) 1)) x2) s5.1))
                                            (
                                              N.cond (N.lt (N.sub .i64 (N.add .i64 (N.conv .i64 (N.shr .u64 (N.conv .u64 (N.add .i64 x1 x3)) 1)) x2) s5.1) x3)
                                                (
                                                  N.bind (slices_symMergeCmpFunc_int_impl_OrderFor_1_f n r4 (N.conv .i64 (N.shr .u64 (N.conv .u64 (N.add .i64 x1 x3)) 1)) (N.sub .i64 (N.add .i64 (N.conv .i64 (N.shr .u64 (N.conv .u64 (N.add .i64 x1 x3)) 1)) x2) s5.1) x3 x4) fun r8 =>
                                                    some r8)
                                                (some r4))
                                            (some r4)))
                                  (
                                    N.cond (N.lt x1 s5.1)
                                      (
                                        N.cond (N.lt s5.1 (N.conv .i64 (N.shr .u64 (N.conv .u64 (N.add .i64 x1 x3)) 1)))
                                          (
                                            N.bind (slices_symMergeCmpFunc_int_impl_OrderFor_1_f n x0 x1 s5.1 (N.conv .i64 (N.shr .u64 (N.conv .u64 (N.add .i64 x1 x3)) 1)) x4) fun r9 =>
                                              N.cond (N.lt (N.conv .i64 (N.shr .u64 (N.conv .u64 (N.add .i64 x1 x3)) 1)) (N.sub .i64 (N.add .i64 (N.conv .i64 (N.shr .u64 (N.conv .u64 (N.add .i64 x1 x3)) 1)) x2) s5.1))
                                                (
                                                  N.cond (N.lt (N.sub .i64 (N.add .i64 (N.conv .i64 (N.shr .u64 (N.conv .u64 (N.add .i64 x1 x3)) 1)) x2) s5.1) x3)
                                                    (
                                                      N.bind (slices_symMergeCmpFunc_int_impl_OrderFor_1_f n r9 (N.conv .i64 (N.shr .u64 (N.conv .u64 (N.add .i64 x1 x3)) 1)) (N.sub .i64 (N.add .i64 (N.conv .i64 (N.shr .u64 (N.conv .u64 (N.add .i64 x1 x3)) 1)) x2) s5.1) x3 x4) fun r10 =>
                                                        some r10)
                                                    (some r9))
                                                (some r9))
                                          (
                                            N.cond (N.lt (N.conv .i64 (N.shr .u64 (N.conv .u64 (N.add .i64 x1 x3)) 1)) (N.sub .i64 (N.add .i64 (N.conv .i64 (N.shr .u64 (N.conv .u64 (N.add .i64 x1 x3)) 1)) x2) s5.1))
                                              (
                                                N.cond (N.lt (N.sub .i64 (N.add .i64 (N.conv .i64 (N.shr .u64 (N.conv .u64 (N.add .i64 x1 x3)) 1)) x2) s5.1) x3)
                                                  (
                                                    N.bind (slices_symMergeCmpFunc_int_impl_OrderFor_1_f n x0 (N.conv .i64 (N.shr .u64 (N.conv .u64 (N.add .i64 x1 x3)) 1)) (N.sub .i64 (N.add .i64 (N.conv .i64 (N.shr .u64 (N.conv .u64 (N.add .i64 x1 x3)) 1)) x2) s5.1) x3 x4) fun r11 =>
                                                      some r11)
                                                  (some x0))
                                              (some x0)))
                                      (
                                        N.cond (N.lt (N.conv .i64 (N.shr .u64 (N.conv .u64 (N.add .i64 x1 x3)) 1)) (N.sub .i64 (N.add .i64 (N.conv .i64 (N.shr .u64 (N.conv .u64 (N.add .i64 x1 x3)) 1)) x2) s5.1))
                                          (
                                            N.cond (N.lt (N.sub .i64 (N.add .i64 (N.conv .i64 (N.shr .u64 (N.conv .u64 (N.add .i64 x1 x3)) 1)) x2) s5.1) x3)
                                              (
                                                N.bind (slices_symMergeCmpFunc_int_impl_OrderFor_1_f n x0 (N.conv .i64 (N.shr .u64 (N.conv .u64 (N.add .i64 x1 x3)) 1)) (N.sub .i64 (N.add .i64 (N.conv .i64 (N.shr .u64 (N.conv .u64 (N.add .i64 x1 x3)) 1)) x2) s5.1) x3 x4) fun r12 =>
                                                  some r12)
                                              (some x0))
                                          (some x0))))
                              (
                                N.cond (N.lt x1 s5.1)
                                  (
                                    N.cond (N.lt s5.1 (N.conv .i64 (N.shr .u64 (N.conv .u64 (N.add .i64 x1 x3)) 1)))
                                      (
                                        N.bind (slices_symMergeCmpFunc_int_impl_OrderFor_1_f n x0 x1 s5.1 (N.conv .i64 (N.shr .u64 (N.conv .u64 (N.add .i64 x1 x3)) 1)) x4) fun r13 =>
                                          N.cond (N.lt (N.conv .i64 (N.shr .u64 (N.conv .u64 (N.add .i64 x1 x3)) 1)) (N.sub .i64 (N.add .i64 (N.conv .i64 (N.shr .u64 (N.conv .u64 (N.add .i64 x1 x3)) 1)) x2) s5.1))
                                            (
                                              N.cond (N.lt (N.sub .i64 (N.add .i64 (N.conv .i64 (N.shr .u64 (N.conv .u64 (N.add .i64 x1 x3)) 1)) x2) s5.1) x3)
                                                (
                                                  N.bind (slices_symMergeCmpFunc_int_impl_OrderFor_1_f n r13 (N.conv .i64 (N.shr .u64 (N.conv .u64 (N.add .i64 x1 x3)) 1)) (N.sub .i64 (N.add .i64 (N.conv .i64 (N.shr .u64 (N.conv .u64 (N.add .i64 x1 x3)) 1)) x2) s5.1) x3 x4) fun r14 =>
                                                    some r14)
                                                (some r13))
                                            (some r13))
                                      (
                                        N.cond (N.lt (N.conv .i64 (N.shr .u64 (N.conv .u64 (N.add .i64 x1 x3)) 1)) (N.sub .i64 (N.add .i64 (N.conv .i64 (N.shr .u64 (N.conv .u64 (N.add .i64 x1 x3)) 1)) x2) s5.1))
                                          (
                                            N.cond (N.lt (N.sub .i64 (N.add .i64 (N.conv .i64 (N.shr .u64 (N.conv .u64 (N.add .i64 x1 x3)) 1)) x2) s5.1) x3)
                                              (
                                                N.bind (slices_symMergeCmpFunc_int_impl_OrderFor_1_f n x0 (N.conv .i64 (N.shr .u64 (N.conv .u64 (N.add .i64 x1 x3)) 1)) (N.sub .i64 (N.add .i64 (N.conv .i64 (N.shr .u64 (N.conv .u64 (N.add .i64 x1 x3)) 1)) x2) s5.1) x3 x4) fun r15 =>
                                                  some r15)
                                              (some x0))
                                          (some x0)))
                                  (
                                    N.cond (N.lt (N.conv .i64 (N.shr .u64 (N.conv .u64 (N.add .i64 x1 x3)) 1)) (N.sub .i64 (N.add .i64 (N.conv .i64 (N.shr .u64 (N.conv .u64 (N.add .i64 x1 x3)) 1)) x2) s5.1))
                                      (
                                        N.cond (N.lt (N.sub .i64 (N.add .i64 (N.conv .i64 (N.shr .u64 (N.conv .u64 (N.add .i64 x1 x3)) 1)) x2) s5.1) x3)
                                          (
                                            N.bind (slices_symMergeCmpFunc_int_impl_OrderFor_1_f n x0 (N.conv .i64 (N.shr .u64 (N.conv .u64 (N.add .i64 x1 x3)) 1)) (N.sub .i64 (N.add .i64 (N.conv .i64 (N.shr .u64 (N.conv .u64 (N.add .i64 x1 x3)) 1)) x2) s5.1) x3 x4) fun r16 =>
                                              some r16)
                                          (some x0))
                                      (some x0))))))
                  (N.sub .i64 (N.add .i64 (N.conv .i64 (N.shr .u64 (N.conv .u64 (N.add .i64 x1 x3)) 1)) x2) x3, N.conv .i64 (N.shr .u64 (N.conv .u64 (N.add .i64 x1 x3)) 1)))
              (
                loopF (fun (s6 : Int × Int) =>
                    N.cond (N.lt s6.1 s6.2)
                      (
                        N.ite (0 ≤ N.sub .i64 (N.sub .i64 (N.add .i64 (N.conv .i64 (N.shr .u64 (N.conv .u64 (N.add .i64 x1 x3)) 1)) x2) 1) (N.conv .i64 (N.shr .u64 (N.conv .u64 (N.add .i64 s6.1 s6.2)) 1)))
                          (
                            N.ite (N.sub .i64 (N.sub .i64 (N.add .i64 (N.conv .i64 (N.shr .u64 (N.conv .u64 (N.add .i64 x1 x3)) 1)) x2) 1) (N.conv .i64 (N.shr .u64 (N.conv .u64 (N.add .i64 s6.1 s6.2)) 1)) < N.len x0)
                              (
                                N.ite (0 ≤ N.conv .i64 (N.shr .u64 (N.conv .u64 (N.add .i64 s6.1 s6.2)) 1))
                                  (
                                    N.ite (N.conv .i64 (N.shr .u64 (N.conv .u64 (N.add .i64 s6.1 s6.2)) 1) < N.len x0)
                                      (
                                        N.bind (impl_OrderFor_1 (N.rd x0 (N.sub .i64 (N.sub .i64 (N.add .i64 (N.conv .i64 (N.shr .u64 (N.conv .u64 (N.add .i64 x1 x3)) 1)) x2) 1) (N.conv .i64 (N.shr .u64 (N.conv .u64 (N.add .i64 s6.1 s6.2)) 1))) 0) (N.rd x0 (N.conv .i64 (N.shr .u64 (N.conv .u64 (N.add .i64 s6.1 s6.2)) 1)) 0) x4) fun r17 =>
                                          N.cond (N.not (N.lt r17 0))
                                            (some (.inl (N.add .i64 (N.conv .i64 (N.shr .u64 (N.conv .u64 (N.add .i64 s6.1 s6.2)) 1)) 1, s6.2)))
                                            (some (.inl (s6.1, N.conv .i64 (N.shr .u64 (N.conv .u64 (N.add .i64 s6.1 s6.2)) 1)))))
                                      none)
                                  none)
                              none)
                          none)
                      (
                        Option.map Sum.inr
                          (
                            N.cond (N.lt s6.1 x2)
                              (
                                N.cond (N.lt x2 (N.sub .i64 (N.add .i64 (N.conv .i64 (N.shr .u64 (N.conv .u64 (N.add .i64 x1 x3)) 1)) x2) s6.1))
                                  (
                                    N.bind (slices_rotateCmpFunc_int_impl_OrderFor_1 x0 s6.1 x2 (N.sub .i64 (N.add .i64 (N.conv .i64 (N.shr .u64 (N.conv .u64 (N.add .i64 x1 x3)) 1)) x2) s6.1) x4) fun r18 =>
                                      N.cond (N.lt x1 s6.1)
                                        (
                                          N.cond (N.lt s6.1 (N.conv .i64 (N.shr .u64 (N.conv .u64 (N.add .i64 x1 x3)) 1)))
                                            (
                                              N.bind (slices_symMergeCmpFunc_int_impl_OrderFor_1_f n r18 x1 s6.1 (N.conv .i64 (N.shr .u64 (N.conv .u64 (N.add .i64 x1 x3)) 1)) x4) fun r19 =>
                                                N.cond (N.lt (N.conv .i64 (N.shr .u64 (N.conv .u64 (N.add .i64 x1 x3)) 1)) (N.sub .i64 (N.add .i64 (N.conv .i64 (N.shr .u64 (N.conv .u64 (N.add .i64 x1 x3)) 1)) x2) s6.1))
                                                  (
                                                    N.cond (N.lt (N.sub .i64 (N.add .i64 (N.conv .i64 (N.shr .u64 (N.conv .u64 (N.add .i64 x1 x3)) 1)) x2) s6.1) x3)
                                                      (
                                                        N.bind (slices_symMergeCmpFunc_int_impl_OrderFor_1_f n r19 (N.conv .i64 (N.shr .u64 (N.conv .u64 (N.add .i64 x1 x3)) 1)) (N.sub .i64 (N.add .i64 (N.conv .i64 (N.shr .u64 (N.conv .u64 (N.add .i64 x1 x3)) 1)) x2) s6.1) x3 x4) fun r20 =>
                                                          some r20)
                                                      (some r19))
                                                  (some r19))
                                            (
                                              N.cond (N.lt (N.conv .i64 (N.shr .u64 (N.conv .u64 (N.add .i64 x1 x3)) 1)) (N.sub .i64 (N.add .i64 (N.conv .i64 (N.shr .u64 (N.conv .u64 (N.add .i64 x1 x3)) 1)) x2) s6.1))
                                                (
                                                  N.cond (N.lt (N.sub .i64 (N.add .i64 (N.conv .i64 (N.shr .u64 (N.conv .u64 (N.add .i64 x1 x3)) 1)) x2) s6.1) x3)
                                                    (
                                                      N.bind (slices_symMergeCmpFunc_int_impl_OrderFor_1_f n r18 (N.conv .i64 (N.shr .u64 (N.conv .u64 (N.add .i64 x1 x3)) 1)) (N.sub .i64 (N.add .i64 (N.conv .i64 (N.shr .u64 (N.conv .u64 (N.add .i64 x1 x3)) 1)) x2) s6.1) x3 x4) fun r21 =>
                                                        some r21)
                                                    (some r18))
                                                (some r18)))
                                        (
                                          N.cond (N.lt (N.conv .i64 (N.shr .u64 (N.conv .u64 (N.add .i64 x1 x3)) 1)) (N.sub .i64 (N.add .i64 (N.conv .i64 (N.shr .u64 (N.conv .u64 (N.add .i64 x1 x3)) 1)) x2) s6.1))
                                            (
                                              N.cond (N.lt (N.sub .i64 (N.add .i64 (N.conv .i64 (N.shr .u64 (N.conv .u64 (N.add .i64 x1 x3)) 1)) x2) s6.1) x3)
                                                (
                                                  N.bind (slices_symMergeCmpFunc_int_impl_OrderFor_1_f n r18 (N.conv .i64 (N.shr .u64 (N.conv .u64 (N.add .i64 x1 x3)) 1)) (N.sub .i64 (N.add .i64 (N.conv .i64 (N.shr .u64 (N.conv .u64 (N.add .i64 x1 x3)) 1)) x2) s6.1) x3 x4) fun r22 =>
                                                    some r22)
                                                (some r18))
                                            (some r18)))
                                  (
                                    N.cond (N.lt x1 s6.1)
                                      (
                                        N.cond (N.lt s6.1 (N.conv .i64 (N.shr .u64 (N.conv .u64 (N.add .i64 x1 x3)) 1)))
                                          (
                                            N.bind (slices_symMergeCmpFunc_int_impl_OrderFor_1_f n x0 x1 s6.1 (N.conv .i64 (N.shr .u64 (N.conv .u64 (N.add .i64 x1 x3)) 1)) x4) fun r23 =>
                                              N.cond (N.lt (N.conv .i64 (N.shr .u64 (N.conv .u64 (N.add .i64 x1 x3)) 1)) (N.sub .i64 (N.add .i64 (N.conv .i64 (N.shr .u64 (N.conv .u64 (N.add .i64 x1 x3)) 1)) x2) s6.1))
                                                (
                                                  N.cond (N.lt (N.sub .i64 (N.add .i64 (N.conv .i64 (N.shr .u64 (N.conv .u64 (N.add .i64 x1 x3)) 1)) x2) s6.1) x3)
                                                    (
                                                      N.bind (slices_symMergeCmpFunc_int_impl_OrderFor_1_f n r23 (N.conv .i64 (N.shr .u64 (N.conv .u64 (N.add .i64 x1 x3)) 1)) (N.sub .i64 (N.add .i64 (N.conv .i64 (N.shr .u64 (N.conv .u64 (N.add .i64 x1 x3)) 1)) x2) s6.1) x3 x4) fun r24 =>
                                                        some r24)
                                                    (some r23))
                                                (some r23))
                                          (
                                            N.cond (N.lt (N.conv .i64 (N.shr .u64 (N.conv .u64 (N.add .i64 x1 x3)) 1)) (N.sub .i64 (N.add .i64 (N.conv .i64 (N.shr .u64 (N.conv .u64 (N.add .i64 x1 x3)) 1)) x2) s6.1))
                                              (
                                                N.cond (N.lt (N.sub .i64 (N.add .i64 (N.conv .i64 (N.shr .u64 (N.conv .u64 (N.add .i64 x1 x3)) 1)) x2) s6.1) x3)
                                                  (
                                                    N.bind (slices_symMergeCmpFunc_int_impl_OrderFor_1_f n x0 (N.conv .i64 (N.shr .u64 (N.conv .u64 (N.add .i64 x1 x3)) 1)) (N.sub .i64 (N.add .i64 (N.conv .i64 (N.shr .u64 (N.conv .u64 (N.add .i64 x1 x3)) 1)) x2) s6.1) x3 x4) fun r25 =>
                                                      some r25)
                                                  (some x0))
                                              (some x0)))
                                      (
                                        N.cond (N.lt (N.conv .i64 (N.shr .u64 (N.conv .u64 (N.add .i64 x1 x3)) 1)) (N.sub .i64 (N.add .i64 (N.conv .i64 (N.shr .u64 (N.conv .u64 (N.add .i64 x1 x3)) 1)) x2) s6.1))
                                          (
                                            N.cond (N.lt (N.sub .i64 (N.add .i64 (N.conv .i64 (N.shr .u64 (N.conv .u64 (N.add .i64 x1 x3)) 1)) x2) s6.1) x3)
                                              (
                                                N.bind (slices_symMergeCmpFunc_int_impl_OrderFor_1_f n x0 (N.conv .i64 (N.shr .u64 (N.conv .u64 (N.add .i64 x1 x3)) 1)) (N.sub .i64 (N.add .i64 (N.conv .i64 (N.shr .u64 (N.conv .u64 (N.add .i64 x1 x3)) 1)) x2) s6.1) x3 x4) fun r26 =>
                                                  some r26)
                                              (some x0))
                                          (some x0))))
                              (
                                N.cond (N.lt x1 s6.1)
                                  (
                                    N.cond (N.lt s6.1 (N.conv .i64 (N.shr .u64 (N.conv .u64 (N.add .i64 x1 x3)) 1)))
                                      (
                                        N.bind (slices_symMergeCmpFunc_int_impl_OrderFor_1_f n x0 x1 s6.1 (N.conv .i64 (N.shr .u64 (N.conv .u64 (N.add .i64 x1 x3)) 1)) x4) fun r27 =>
                                          N.cond (N.lt (N.conv .i64 (N.shr .u64 (N.conv .u64 (N.add .i64 x1 x3)) 1)) (N.sub .i64 (N.add .i64 (N.conv .i64 (N.shr .u64 (N.conv .u64 (N.add .i64 x1 x3)) 1)) x2) s6.1))
                                            (
                                              N.cond (N.lt (N.sub .i64 (N.add .i64 (N.conv .i64 (N.shr .u64 (N.conv .u64 (N.add .i64 x1 x3)) 1)) x2) s6.1) x3)
                                                (
                                                  N.bind (slices_symMergeCmpFunc_int_impl_OrderFor_1_f n r27 (N.conv .i64 (N.shr .u64 (N.conv .u64 (N.add .i64 x1 x3)) 1)) (N.sub .i64 (N.add .i64 (N.conv .i64 (N.shr .u64 (N.conv .u64 (N.add .i64 x1 x3)) 1)) x2) s6.1) x3 x4) fun r28 =>
                                                    some r28)
                                                (some r27))
                                            (some r27))
                                      (
                                        N.cond (N.lt (N.conv .i64 (N.shr .u64 (N.conv .u64 (N.add .i64 x1 x3)) 1)) (N.sub .i64 (N.add .i64 (N.conv .i64 (N.shr .u64 (N.conv .u64 (N.add .i64 x1 x3)) 1)) x2) s6.1))
                                          (
                                            N.cond (N.lt (N.sub .i64 (N.add .i64 (N.conv .i64 (N.shr .u64 (N.conv .u64 (N.add .i64 x1 x3)) 1)) x2) s6.1) x3)
                                              (
                                                N.bind (slices_symMergeCmpFunc_int_impl_OrderFor_1_f n x0 (N.conv .i64 (N.shr .u64 (N.conv .u64 (N.add .i64 x1 x3)) 1)) (N.sub .i64 (N.add .i64 (N.conv .i64 (N.shr .u64 (N.conv .u64 (N.add .i64 x1 x3)) 1)) x2) s6.1) x3 x4) fun r29 =>
                                                  some r29)
                                              (some x0))
                                          (some x0)))
                                  (
                                    N.cond (N.lt (N.conv .i64 (N.shr .u64 (N.conv .u64 (N.add .i64 x1 x3)) 1)) (N.sub .i64 (N.add .i64 (N.conv .i64 (N.shr .u64 (N.conv .u64 (N.add .i64 x1 x3)) 1)) x2) s6.1))
                                      (
                                        N.cond (N.lt (N.sub .i64 (N.add .i64 (N.conv .i64 (N.shr .u64 (N.conv .u64 (N.add .i64 x1 x3)) 1)) x2) s6.1) x3)
                                          (
                                            N.bind (slices_symMergeCmpFunc_int_impl_OrderFor_1_f n x0 (N.conv .i64 (N.shr .u64 (N.conv .u64 (N.add .i64 x1 x3)) 1)) (N.sub .i64 (N.add .i64 (N.conv .i64 (N.shr .u64 (N.conv .u64 (N.add .i64 x1 x3)) 1)) x2) s6.1) x3 x4) fun r30 =>
                                              some r30)
                                          (some x0))
                                      (some x0))))))
                  (x1, x2))))
noncomputable def slices_symMergeCmpFunc_int_impl_OrderFor_1 (x0 : List Int) (x1 : Int) (x2 : Int) (x3 : Int) (x4 : Int) : Option (List Int) := slices_symMergeCmpFunc_int_impl_OrderFor_1_f (x0.length + 1) x0 x1 x2 x3 x4

noncomputable def slices_stableCmpFunc_int_impl_OrderFor_1 (x0 : List Int) (x1 : Int) (x2 : Int) : Option (List Int) :=
  loopF (fun (s1 : Int × Int × List Int) =>
      N.cond (N.le s1.2.1 x1)
        (
          N.bind (slices_insertionSortCmpFunc_int_impl_OrderFor_1 s1.2.2 s1.1 s1.2.1 x2) fun r1 =>
            some (.inl (s1.2.1, N.add .i64 s1.2.1 20, r1)))
        (
          Option.map Sum.inr
            (
              N.bind (slices_insertionSortCmpFunc_int_impl_OrderFor_1 s1.2.2 s1.1 x1 x2) fun r2 =>
                loopF (fun (s2 : Int × List Int) =>
                    N.cond (N.lt s2.1 x1)
                      (
                        loopF (fun (s3 : Int × Int × List Int) =>
                            N.cond (N.le s3.2.1 x1)
                              (
                                N.bind (slices_symMergeCmpFunc_int_impl_OrderFor_1 s3.2.2 s3.1 (N.add .i64 s3.1 s2.1) s3.2.1 x2) fun r3 =>
                                  some (.inl (s3.2.1, N.add .i64 s3.2.1 (N.mul .i64 2 s2.1), r3)))
                              (
                                Option.map Sum.inr
                                  (
                                    N.cond (N.lt (N.add .i64 s3.1 s2.1) x1)
                                      (
                                        N.bind (slices_symMergeCmpFunc_int_impl_OrderFor_1 s3.2.2 s3.1 (N.add .i64 s3.1 s2.1) x1 x2) fun r4 =>
                                          some (.inl (N.mul .i64 s2.1 2, r4)))
                                      (some (.inl (N.mul .i64 s2.1 2, s3.2.2))))))
                          (0, N.mul .i64 2 s2.1, s2.2))
                      (some (.inr s2.2)))
                  (20, r2))))
    (0, 20, x0)

noncomputable def slices_SortStableFunc_int_impl_OrderFor_1 (x0 : List Int) (x1 : Int) : Option (List Int) :=
  N.bind (slices_stableCmpFunc_int_impl_OrderFor_1 x0 (N.len x0) x1) fun r1 =>
    some r1

noncomputable def impl_OrderFor (x0 : List Int) (x1 : Int) : Option (List Int) :=
  N.bind (impl_sorted x0) fun r1 =>
    N.bind (slices_SortStableFunc_int_impl_OrderFor_1 r1 x1) fun r2 =>
      some r2

noncomputable def spec_l1Once (x0 : l1Cur) (x1 : Int) : Option (Bool × l1Cur) :=
  N.bind (spec_l1Below x0 x1) fun r1 =>
    some (N.eq r1.1 0, r1.2)

noncomputable def slices_Index_int (x0 : List Int) (x1 : Int) : Option (Int) :=
  loopF (fun (s1 : Int) =>
      N.cond (N.lt s1 (N.len x0))
        (
          N.ite (0 ≤ s1)
            (
              N.ite (s1 < N.len x0)
                (
                  N.cond (N.eq x1 (N.rd x0 s1 0))
                    (some (.inr s1))
                    (some (.inl (N.add .i64 s1 1))))
                none)
            none)
        (some (.inr (-1))))
    0

noncomputable def slices_Contains_int (x0 : List Int) (x1 : Int) : Option (Bool) :=
  N.bind (slices_Index_int x0 x1) fun r1 =>
    some (N.ge r1 0)

noncomputable def spec_l9Put (x0 : List Int) (x1 : Int) : Option (List Int) :=
  loopF (fun (s1 : Int) =>
      N.cond (N.lt s1 (N.len x0))
        (
          N.ite (0 ≤ s1)
            (
              N.ite (s1 < N.len x0)
                (
                  N.cond (N.lt (N.rd x0 s1 0) x1)
                    (some (.inl (N.add .i64 s1 1)))
                    (
                      Option.map Sum.inr
                        (
                          N.cond (N.lt s1 (N.len x0))
                            (
                              N.ite (0 ≤ s1)
                                (
                                  N.ite (s1 < N.len x0)
                                    (
                                      N.cond (N.eq (N.rd x0 s1 0) x1)
                                        (
                                          N.ite (N.fits [] x0 8)
                                            (some (N.app [] x0))
                                            none)
                                        (
                                          N.ite (0 ≤ s1)
                                            (
                                              N.ite (s1 ≤ N.len x0)
                                                (
                                                  N.ite (N.fits [] (N.cut x0 0 s1) 8)
                                                    (
                                                      N.ite (N.fits (N.app [] (N.cut x0 0 s1)) [x1] 8)
                                                        (
                                                          N.ite (0 ≤ s1)
                                                            (
                                                              N.ite (s1 ≤ N.len x0)
                                                                (
                                                                  N.ite (N.len x0 ≤ N.len x0)
                                                                    (
                                                                      N.ite (N.fits (N.app (N.app [] (N.cut x0 0 s1)) [x1]) (N.cut x0 s1 (N.len x0)) 8)
                                                                        (some (N.app (N.app (N.app [] (N.cut x0 0 s1)) [x1]) (N.cut x0 s1 (N.len x0))))
                                                                        none)
                                                                    none)
                                                                none)
                                                            none)
                                                        none)
                                                    none)
                                                none)
                                            none))
                                    none)
                                none)
                            (
                              N.ite (0 ≤ s1)
                                (
                                  N.ite (s1 ≤ N.len x0)
                                    (
                                      N.ite (N.fits [] (N.cut x0 0 s1) 8)
                                        (
                                          N.ite (N.fits (N.app [] (N.cut x0 0 s1)) [x1] 8)
                                            (
                                              N.ite (0 ≤ s1)
                                                (
                                                  N.ite (s1 ≤ N.len x0)
                                                    (
                                                      N.ite (N.len x0 ≤ N.len x0)
                                                        (
                                                          N.ite (N.fits (N.app (N.app [] (N.cut x0 0 s1)) [x1]) (N.cut x0 s1 (N.len x0)) 8)
                                                            (some (N.app (N.app (N.app [] (N.cut x0 0 s1)) [x1]) (N.cut x0 s1 (N.len x0))))
                                                            none)
                                                        none)
                                                    none)
                                                none)
                                            none)
                                        none)
                                    none)
                                none))))
                none)
            none)
        (
          Option.map Sum.inr
            (
              N.cond (N.lt s1 (N.len x0))
                (
                  N.ite (0 ≤ s1)
                    (
                      N.ite (s1 < N.len x0)
                        (
                          N.cond (N.eq (N.rd x0 s1 0) x1)
                            (
                              N.ite (N.fits [] x0 8)
                                (some (N.app [] x0))
                                none)
                            (
                              N.ite (0 ≤ s1)
                                (
                                  N.ite (s1 ≤ N.len x0)
                                    (
                                      N.ite (N.fits [] (N.cut x0 0 s1) 8)
                                        (
                                          N.ite (N.fits (N.app [] (N.cut x0 0 s1)) [x1] 8)
                                            (
                                              N.ite (0 ≤ s1)
                                                (
                                                  N.ite (s1 ≤ N.len x0)
                                                    (
                                                      N.ite (N.len x0 ≤ N.len x0)
                                                        (
                                                          N.ite (N.fits (N.app (N.app [] (N.cut x0 0 s1)) [x1]) (N.cut x0 s1 (N.len x0)) 8)
                                                            (some (N.app (N.app (N.app [] (N.cut x0 0 s1)) [x1]) (N.cut x0 s1 (N.len x0))))
                                                            none)
                                                        none)
                                                    none)
                                                none)
                                            none)
                                        none)
                                    none)
                                none))
                        none)
                    none)
                (
                  N.ite (0 ≤ s1)
                    (
                      N.ite (s1 ≤ N.len x0)
                        (
                          N.ite (N.fits [] (N.cut x0 0 s1) 8)
                            (
                              N.ite (N.fits (N.app [] (N.cut x0 0 s1)) [x1] 8)
                                (
                                  N.ite (0 ≤ s1)
                                    (
                                      N.ite (s1 ≤ N.len x0)
                                        (
                                          N.ite (N.len x0 ≤ N.len x0)
                                            (
                                              N.ite (N.fits (N.app (N.app [] (N.cut x0 0 s1)) [x1]) (N.cut x0 s1 (N.len x0)) 8)
                                                (some (N.app (N.app (N.app [] (N.cut x0 0 s1)) [x1]) (N.cut x0 s1 (N.len x0))))
                                                none)
                                            none)
                                        none)
                                    none)
                                none)
                            none)
                        none)
                    none))))
    0

noncomputable def slices_Clone_int (x0 : List Int) : Option (List Int) :=
  N.nilc (N.isE x0)
    (some [])
    (
      N.ite (N.fits [] x0 8)
        (some (N.app [] x0))
        none)

noncomputable def impl_copyLibraries (x0 : List Library) : Option (List Library) :=
  loopF (fun (s1 : List Library × Int) =>
      N.cond (N.lt s1.2 (N.len x0))
        (
          N.ite (0 ≤ s1.2)
            (
              N.ite (s1.2 < N.len x0)
                (
                  N.bind (slices_Clone_int ((N.rd x0 s1.2 (0, [], false, false)).2.1)) fun r1 =>
                    N.ite (N.fits s1.1 [((N.rd x0 s1.2 (0, [], false, false)).1, r1, (N.rd x0 s1.2 (0, [], false, false)).2.2.1, (N.rd x0 s1.2 (0, [], false, false)).2.2.2)] 40)
                      (some (.inl (N.app s1.1 [((N.rd x0 s1.2 (0, [], false, false)).1, r1, (N.rd x0 s1.2 (0, [], false, false)).2.2.1, (N.rd x0 s1.2 (0, [], false, false)).2.2.2)], N.add .i64 s1.2 1)))
                      none)
                none)
            none)
        (some (.inr s1.1)))
    ([], 0)

noncomputable def slices_Equal_int (x0 : List Int) (x1 : List Int) : Option (Bool) :=
  N.cond (N.ne (N.len x0) (N.len x1))
    (some false)
    (
      loopF (fun (s1 : Int) =>
          N.cond (N.lt s1 (N.len x0))
            (
              N.ite (0 ≤ s1)
                (
                  N.ite (s1 < N.len x0)
                    (
                      N.ite (0 ≤ s1)
                        (
                          N.ite (s1 < N.len x1)
                            (
                              N.cond (N.ne (N.rd x0 s1 0) (N.rd x1 s1 0))
                                (some (.inr false))
                                (some (.inl (N.add .i64 s1 1))))
                            none)
                        none)
                    none)
                none)
            (some (.inr true)))
        0)

noncomputable def impl_ascends (x0 : List Int) : Option (Bool) :=
  N.bind (impl_sorted x0) fun r1 =>
    N.bind (slices_Equal_int r1 x0) fun r2 =>
      some r2

noncomputable def impl_AreLibraries (x0 : List Library) : Option (Bool) :=
  N.cond (N.gt (N.len x0) 6)
    (some false)
    (
      loopF (fun (s1 : Int × Int) =>
          N.cond (N.lt s1.2 (N.len x0))
            (
              N.ite (0 ≤ s1.2)
                (
                  N.ite (s1.2 < N.len x0)
                    (
                      N.bind (impl_InRange ((N.rd x0 s1.2 (0, [], false, false)).1) (N.add .i64 s1.1 1) 99) fun r1 =>
                        N.cond (N.not r1)
                          (some (.inr false))
                          (
                            N.bind (impl_ascends ((N.rd x0 s1.2 (0, [], false, false)).2.1)) fun r2 =>
                              N.cond (N.not r2)
                                (some (.inr false))
                                (some (.inl ((N.rd x0 s1.2 (0, [], false, false)).1, N.add .i64 s1.2 1)))))
                    none)
                none)
            (some (.inr true)))
        ((-1), 0))

noncomputable def impl_GoodCopies (x0 : List Library) (x1 : Int) : Option (Int) :=
  loopF (fun (s1 : Int × Int) =>
      N.cond (N.lt s1.2 (N.len x0))
        (
          N.ite (0 ≤ s1.2)
            (
              N.ite (s1.2 < N.len x0)
                (
                  N.cond ((N.rd x0 s1.2 (0, [], false, false)).2.2.1)
                    (
                      N.cond (N.not ((N.rd x0 s1.2 (0, [], false, false)).2.2.2))
                        (
                          N.bind (slices_Contains_int ((N.rd x0 s1.2 (0, [], false, false)).2.1) x1) fun r1 =>
                            N.cond r1
                              (some (.inl (N.add .i64 s1.1 1, N.add .i64 s1.2 1)))
                              (some (.inl (s1.1, N.add .i64 s1.2 1))))
                        (some (.inl (s1.1, N.add .i64 s1.2 1))))
                    (some (.inl (s1.1, N.add .i64 s1.2 1))))
                none)
            none)
        (some (.inr s1.1)))
    (0, 0)

noncomputable def impl_HoldersOf (x0 : List Library) (x1 : Int) : Option (List Int) :=
  loopF (fun (s1 : List Int × Int) =>
      N.cond (N.lt s1.2 (N.len x0))
        (
          N.ite (0 ≤ s1.2)
            (
              N.ite (s1.2 < N.len x0)
                (
                  N.cond ((N.rd x0 s1.2 (0, [], false, false)).2.2.1)
                    (
                      N.bind (slices_Contains_int ((N.rd x0 s1.2 (0, [], false, false)).2.1) x1) fun r1 =>
                        N.cond r1
                          (
                            N.ite (N.fits s1.1 [(N.rd x0 s1.2 (0, [], false, false)).1] 8)
                              (some (.inl (N.app s1.1 [(N.rd x0 s1.2 (0, [], false, false)).1], N.add .i64 s1.2 1)))
                              none)
                          (some (.inl (s1.1, N.add .i64 s1.2 1))))
                    (some (.inl (s1.1, N.add .i64 s1.2 1))))
                none)
            none)
        (some (.inr s1.1)))
    ([], 0)

noncomputable def impl_RepairCopies_1 (x0 : Library) (x1 : Int) : Option (Bool) :=
  some (N.eq x0.1 x1)

noncomputable def slices_IndexFunc_Library_impl_RepairCopies_1 (x0 : List Library) (x1 : Int) : Option (Int) :=
  loopF (fun (s1 : Int) =>
      N.cond (N.lt s1 (N.len x0))
        (
          N.ite (0 ≤ s1)
            (
              N.ite (s1 < N.len x0)
                (
                  N.bind (impl_RepairCopies_1 (N.rd x0 s1 (0, [], false, false)) x1) fun r1 =>
                    N.cond r1
                      (some (.inr s1))
                      (some (.inl (N.add .i64 s1 1))))
                none)
            none)
        (some (.inr (-1))))
    0

noncomputable def impl_withDigest (x0 : List Int) (x1 : Int) : Option (List Int) :=
  N.ite (N.len x0 * 8 ≤ 140737488355320)
    (some (N.withD x0 x1))
    none

noncomputable def impl_RepairCopies (x0 : List Library) (x1 : Int) (x2 : Int) : Option ((List Library) × Bool) :=
  N.bind (impl_copyLibraries x0) fun r1 =>
    N.bind (impl_AreLibraries x0) fun r2 =>
      N.cond (N.not r2)
        (some (r1, false))
        (
          N.bind (impl_GoodCopies x0 x1) fun r3 =>
            N.cond (N.eq r3 0)
              (some (r1, false))
              (
                loopF (fun (s1 : List Int × Int) =>
                    N.cond (N.lt s1.2 (N.len x0))
                      (
                        N.ite (0 ≤ s1.2)
                          (
                            N.ite (s1.2 < N.len x0)
                              (
                                N.cond ((N.rd x0 s1.2 (0, [], false, false)).2.2.1)
                                  (
                                    N.bind (slices_Contains_int ((N.rd x0 s1.2 (0, [], false, false)).2.1) x1) fun r4 =>
                                      N.cond (N.not r4)
                                        (
                                          N.ite (N.fits s1.1 [(N.rd x0 s1.2 (0, [], false, false)).1] 8)
                                            (some (.inl (N.app s1.1 [(N.rd x0 s1.2 (0, [], false, false)).1], N.add .i64 s1.2 1)))
                                            none)
                                        (some (.inl (s1.1, N.add .i64 s1.2 1))))
                                  (some (.inl (s1.1, N.add .i64 s1.2 1))))
                              none)
                          none)
                      (
                        Option.map Sum.inr
                          (
                            N.bind (impl_OrderFor s1.1 x1) fun r5 =>
                              loopF (fun (s2 : Int × List Library) =>
                                  N.cond (N.lt s2.1 (N.len r5))
                                    (
                                      N.ite (0 ≤ s2.1)
                                        (
                                          N.ite (s2.1 < N.len r5)
                                            (
                                              N.bind (impl_HoldersOf s2.2 x1) fun r6 =>
                                                N.cond (N.ge (N.len r6) x2)
                                                  (some (.inr (s2.2, true)))
                                                  (
                                                    N.bind (slices_IndexFunc_Library_impl_RepairCopies_1 s2.2 (N.rd r5 s2.1 0)) fun r7 =>
                                                      N.ite (0 ≤ r7)
                                                        (
                                                          N.ite (r7 < N.len s2.2)
                                                            (
                                                              N.bind (impl_withDigest ((N.rd s2.2 r7 (0, [], false, false)).2.1) x1) fun r8 =>
                                                                N.ite (0 ≤ r7)
                                                                  (
                                                                    N.ite (r7 < N.len s2.2)
                                                                      (some (.inl (N.add .i64 s2.1 1, N.set s2.2 r7 ((N.rd s2.2 r7 (0, [], false, false)).1, r8, (N.rd s2.2 r7 (0, [], false, false)).2.2.1, (N.rd s2.2 r7 (0, [], false, false)).2.2.2))))
                                                                      none)
                                                                  none)
                                                            none)
                                                        none))
                                            none)
                                        none)
                                    (some (.inr (s2.2, true))))
                                (0, r1))))
                  ([], 0)))

noncomputable def spec_l29Draw (x0 : l1Cur) : Option ((List Library) × l1Cur) :=
  loopF (fun (s1 : List Library × Int × (List Int × Int × Int)) =>
      N.bind (spec_l1Below s1.2.2 6) fun r1 =>
        N.cond (N.lt s1.2.1 (N.add .i64 1 r1.1))
          (
            N.bind (spec_l1Once r1.2 4) fun r2 =>
              N.bind (spec_l1Once r2.2 5) fun r3 =>
                N.bind (spec_l1Below r3.2 4) fun r4 =>
                  loopF (fun (s2 : Int × (List Int × Int × Int) × (Int × List Int × Bool × Bool)) =>
                      N.cond (N.gt s2.1 0)
                        (
                          N.bind (spec_l1Below s2.2.1 4) fun r5 =>
                            N.bind (spec_l9Put s2.2.2.2.1 r5.1) fun r6 =>
                              some (.inl (N.sub .i64 s2.1 1, r5.2, (s2.2.2.1, r6, s2.2.2.2.2.1, s2.2.2.2.2.2))))
                        (
                          Option.map Sum.inr
                            (
                              N.ite (N.fits s1.1 [s2.2.2] 40)
                                (some (.inl (N.app s1.1 [s2.2.2], N.add .i64 s1.2.1 1, s2.2.1)))
                                none)))
                    (r4.1, r4.2, (N.mul .i64 2 s1.2.1, [], N.not r2.1, r3.1)))
          (some (.inr (s1.1, r1.2))))
    ([], 0, x0)

noncomputable def spec_l29Any (x0 : l1Cur) : Option ((List Library) × l1Cur) :=
  N.bind (spec_l29Draw x0) fun r1 =>
    N.bind (spec_l1Below r1.2 (N.len r1.1)) fun r2 =>
      N.bind (spec_l1Below r2.2 9) fun r3 =>
        N.cond (N.eq r3.1 0)
          (
            N.bind (spec_l4Raw r3.2) fun r4 =>
              N.ite (0 ≤ r2.1)
                (
                  N.ite (r2.1 < N.len r1.1)
                    (
                      N.let_ (N.set r1.1 r2.1 (r4.1, (N.rd r1.1 r2.1 (0, [], false, false)).2.1, (N.rd r1.1 r2.1 (0, [], false, false)).2.2.1, (N.rd r1.1 r2.1 (0, [], false, false)).2.2.2)) fun v1 =>
                        some (v1, r4.2))
                    none)
                none)
          (
            N.cond (N.eq r3.1 1)
              (
                N.ite (0 ≤ r2.1)
                  (
                    N.ite (r2.1 < N.len r1.1)
                      (
                        N.let_ (N.set r1.1 r2.1 ((N.rd r1.1 r2.1 (0, [], false, false)).1, [2, 1], (N.rd r1.1 r2.1 (0, [], false, false)).2.2.1, (N.rd r1.1 r2.1 (0, [], false, false)).2.2.2)) fun v2 =>
                          some (v2, r3.2))
                      none)
                  none)
              (
                N.cond (N.eq r3.1 2)
                  (
                    N.ite (0 < N.len r1.1)
                      (
                        N.ite (N.fits r1.1 [N.rd r1.1 0 (0, [], false, false)] 40)
                          (some (N.app r1.1 [N.rd r1.1 0 (0, [], false, false)], r3.2))
                          none)
                      none)
                  (some (r1.1, r3.2))))

noncomputable def spec_DrawHoldersOf (x0 : List Int) : Option ((List Library) × Int) :=
  N.bind (spec_l1New x0) fun r1 =>
    N.bind (spec_l29Any r1) fun r2 =>
      N.bind (spec_l1Below r2.2 5) fun r3 =>
        some (r2.1, r3.1)

noncomputable def spec_DrawRepairCopies (x0 : List Int) : Option ((List Library) × Int × Int) :=
  N.bind (spec_DrawHoldersOf x0) fun r1 =>
    N.bind (spec_l1New x0) fun r2 =>
      N.bind (spec_l1Int r2 [0, 1, 2, 3, 9, (-1), 9223372036854775807]) fun r3 =>
        some (r1.1, r1.2, r3.1)

noncomputable def impl_EqualLibraries_1 (x0 : Library) (x1 : Library) : Option (Bool) :=
  N.cond (N.eq x0.1 x1.1)
    (
      N.cond (N.eqB x0.2.2.1 x1.2.2.1)
        (
          N.cond (N.eqB x0.2.2.2 x1.2.2.2)
            (
              N.bind (slices_Equal_int x0.2.1 x1.2.1) fun r1 =>
                some r1)
            (some false))
        (some false))
    (some false)

noncomputable def slices_EqualFunc_Library_impl_EqualLibraries_1 (x0 : List Library) (x1 : List Library) : Option (Bool) :=
  N.cond (N.ne (N.len x0) (N.len x1))
    (some false)
    (
      loopF (fun (s1 : Int) =>
          N.cond (N.lt s1 (N.len x0))
            (
              N.ite (0 ≤ s1)
                (
                  N.ite (s1 < N.len x0)
                    (
                      N.ite (0 ≤ s1)
                        (
                          N.ite (s1 < N.len x1)
                            (
                              N.bind (impl_EqualLibraries_1 (N.rd x0 s1 (0, [], false, false)) (N.rd x1 s1 (0, [], false, false))) fun r1 =>
                                N.cond (N.not r1)
                                  (some (.inr false))
                                  (some (.inl (N.add .i64 s1 1))))
                            none)
                        none)
                    none)
                none)
            (some (.inr true)))
        0)

noncomputable def impl_EqualLibraries (x0 : List Library) (x1 : List Library) : Option (Bool) :=
  N.bind (slices_EqualFunc_Library_impl_EqualLibraries_1 x0 x1) fun r1 =>
    some r1

noncomputable def impl_CanProduce (x0 : List Library) (x1 : Int) : Option (Bool) :=
  N.bind (impl_GoodCopies x0 x1) fun r1 =>
    some (N.ge r1 1)

noncomputable def laws_at (x0 : List Int) (x1 : Int) : Option (Int) :=
  N.cond (N.lt x1 (N.len x0))
    (
      N.ite (0 ≤ x1)
        (
          N.ite (x1 < N.len x0)
            (some (N.conv .i64 (N.rd x0 x1 0)))
            none)
        none)
    (some (N.rem (N.add .i64 (N.mul .i64 x1 31) (N.mul .i64 (N.len x0) 7)) 256))

noncomputable def laws_FnKept (x0 : List Int) : Option (Bool) :=
  N.bind (laws_big x0) fun r1 =>
    N.cond r1
      (some true)
      (
        N.bind (spec_DrawRepairCopies x0) fun r2 =>
          N.bind (impl_RepairCopies r2.1 r2.2.1 r2.2.2) fun r3 =>
            N.cond (N.not r3.2)
              (
                N.bind (impl_EqualLibraries r3.1 r2.1) fun r4 =>
                  some r4)
              (
                loopF (fun (s1 : Int × Int) =>
                    N.cond (N.lt s1.2 (N.len r2.1))
                      (
                        N.ite (0 ≤ s1.2)
                          (
                            N.ite (s1.2 < N.len r2.1)
                              (
                                N.cond ((N.rd r2.1 s1.2 (0, [], false, false)).2.2.1)
                                  (some (.inl (N.add .i64 s1.1 1, N.add .i64 s1.2 1)))
                                  (some (.inl (s1.1, N.add .i64 s1.2 1))))
                              none)
                          none)
                      (
                        Option.map Sum.inr
                          (
                            N.bind (impl_HoldersOf r3.1 r2.2.1) fun r5 =>
                              N.bind (impl_AreLibraries r3.1) fun r6 =>
                                N.cond (N.not r6)
                                  (some false)
                                  (
                                    N.bind (impl_HoldersOf r2.1 r2.2.1) fun r7 =>
                                      N.cond (N.lt (N.len r5) (N.len r7))
                                        (some false)
                                        (
                                          N.cond (N.ge r2.2.2 0)
                                            (
                                              N.cond (N.lt (N.len r5) r2.2.2)
                                                (
                                                  N.cond (N.lt (N.len r5) s1.1)
                                                    (some false)
                                                    (
                                                      N.bind (impl_CanProduce r3.1 r2.2.1) fun r8 =>
                                                        N.cond (N.not r8)
                                                          (some false)
                                                          (
                                                            N.bind (impl_GoodCopies r3.1 r2.2.1) fun r9 =>
                                                              N.bind (laws_at x0 2) fun r10 =>
                                                                N.ite (r9 = 0)
                                                                  none
                                                                  (
                                                                    loopF (fun (s2 : Int × Int × List Library) =>
                                                                        N.cond (N.lt s2.2.1 (N.len s2.2.2))
                                                                          (
                                                                            N.cond (N.gt s2.1 0)
                                                                              (
                                                                                N.ite (0 ≤ s2.2.1)
                                                                                  (
                                                                                    N.ite (s2.2.1 < N.len s2.2.2)
                                                                                      (
                                                                                        N.cond ((N.rd s2.2.2 s2.2.1 (0, [], false, false)).2.2.1)
                                                                                          (
                                                                                            N.ite (0 ≤ s2.2.1)
                                                                                              (
                                                                                                N.ite (s2.2.1 < N.len s2.2.2)
                                                                                                  (
                                                                                                    N.cond (N.not ((N.rd s2.2.2 s2.2.1 (0, [], false, false)).2.2.2))
                                                                                                      (
                                                                                                        N.ite (0 ≤ s2.2.1)
                                                                                                          (
                                                                                                            N.ite (s2.2.1 < N.len s2.2.2)
                                                                                                              (some (.inl (N.sub .i64 s2.1 1, N.add .i64 s2.2.1 1, N.set s2.2.2 s2.2.1 ((N.rd s2.2.2 s2.2.1 (0, [], false, false)).1, (N.rd s2.2.2 s2.2.1 (0, [], false, false)).2.1, false, (N.rd s2.2.2 s2.2.1 (0, [], false, false)).2.2.2))))
                                                                                                              none)
                                                                                                          none)
                                                                                                      (some (.inl (s2.1, N.add .i64 s2.2.1 1, s2.2.2))))
                                                                                                  none)
                                                                                              none)
                                                                                          (some (.inl (s2.1, N.add .i64 s2.2.1 1, s2.2.2))))
                                                                                      none)
                                                                                  none)
                                                                              (
                                                                                Option.map Sum.inr
                                                                                  (
                                                                                    N.bind (impl_CanProduce s2.2.2 r2.2.1) fun r11 =>
                                                                                      some r11)))
                                                                          (
                                                                            Option.map Sum.inr
                                                                              (
                                                                                N.bind (impl_CanProduce s2.2.2 r2.2.1) fun r12 =>
                                                                                  some r12)))
                                                                      (N.rem r10 r9, 0, r3.1)))))
                                                (
                                                  N.bind (impl_CanProduce r3.1 r2.2.1) fun r13 =>
                                                    N.cond (N.not r13)
                                                      (some false)
                                                      (
                                                        N.bind (impl_GoodCopies r3.1 r2.2.1) fun r14 =>
                                                          N.bind (laws_at x0 2) fun r15 =>
                                                            N.ite (r14 = 0)
                                                              none
                                                              (
                                                                loopF (fun (s3 : Int × Int × List Library) =>
                                                                    N.cond (N.lt s3.2.1 (N.len s3.2.2))
                                                                      (
                                                                        N.cond (N.gt s3.1 0)
                                                                          (
                                                                            N.ite (0 ≤ s3.2.1)
                                                                              (
                                                                                N.ite (s3.2.1 < N.len s3.2.2)
                                                                                  (
                                                                                    N.cond ((N.rd s3.2.2 s3.2.1 (0, [], false, false)).2.2.1)
                                                                                      (
                                                                                        N.ite (0 ≤ s3.2.1)
                                                                                          (
                                                                                            N.ite (s3.2.1 < N.len s3.2.2)
                                                                                              (
                                                                                                N.cond (N.not ((N.rd s3.2.2 s3.2.1 (0, [], false, false)).2.2.2))
                                                                                                  (
                                                                                                    N.ite (0 ≤ s3.2.1)
                                                                                                      (
                                                                                                        N.ite (s3.2.1 < N.len s3.2.2)
                                                                                                          (some (.inl (N.sub .i64 s3.1 1, N.add .i64 s3.2.1 1, N.set s3.2.2 s3.2.1 ((N.rd s3.2.2 s3.2.1 (0, [], false, false)).1, (N.rd s3.2.2 s3.2.1 (0, [], false, false)).2.1, false, (N.rd s3.2.2 s3.2.1 (0, [], false, false)).2.2.2))))
                                                                                                          none)
                                                                                                      none)
                                                                                                  (some (.inl (s3.1, N.add .i64 s3.2.1 1, s3.2.2))))
                                                                                              none)
                                                                                          none)
                                                                                      (some (.inl (s3.1, N.add .i64 s3.2.1 1, s3.2.2))))
                                                                                  none)
                                                                              none)
                                                                          (
                                                                            Option.map Sum.inr
                                                                              (
                                                                                N.bind (impl_CanProduce s3.2.2 r2.2.1) fun r16 =>
                                                                                  some r16)))
                                                                      (
                                                                        Option.map Sum.inr
                                                                          (
                                                                            N.bind (impl_CanProduce s3.2.2 r2.2.1) fun r17 =>
                                                                              some r17)))
                                                                  (N.rem r15 r14, 0, r3.1)))))
                                            (
                                              N.bind (impl_CanProduce r3.1 r2.2.1) fun r18 =>
                                                N.cond (N.not r18)
                                                  (some false)
                                                  (
                                                    N.bind (impl_GoodCopies r3.1 r2.2.1) fun r19 =>
                                                      N.bind (laws_at x0 2) fun r20 =>
                                                        N.ite (r19 = 0)
                                                          none
                                                          (
                                                            loopF (fun (s4 : Int × Int × List Library) =>
                                                                N.cond (N.lt s4.2.1 (N.len s4.2.2))
                                                                  (
                                                                    N.cond (N.gt s4.1 0)
                                                                      (
                                                                        N.ite (0 ≤ s4.2.1)
                                                                          (
                                                                            N.ite (s4.2.1 < N.len s4.2.2)
                                                                              (
                                                                                N.cond ((N.rd s4.2.2 s4.2.1 (0, [], false, false)).2.2.1)
                                                                                  (
                                                                                    N.ite (0 ≤ s4.2.1)
                                                                                      (
                                                                                        N.ite (s4.2.1 < N.len s4.2.2)
                                                                                          (
                                                                                            N.cond (N.not ((N.rd s4.2.2 s4.2.1 (0, [], false, false)).2.2.2))
                                                                                              (
                                                                                                N.ite (0 ≤ s4.2.1)
                                                                                                  (
                                                                                                    N.ite (s4.2.1 < N.len s4.2.2)
                                                                                                      (some (.inl (N.sub .i64 s4.1 1, N.add .i64 s4.2.1 1, N.set s4.2.2 s4.2.1 ((N.rd s4.2.2 s4.2.1 (0, [], false, false)).1, (N.rd s4.2.2 s4.2.1 (0, [], false, false)).2.1, false, (N.rd s4.2.2 s4.2.1 (0, [], false, false)).2.2.2))))
                                                                                                      none)
                                                                                                  none)
                                                                                              (some (.inl (s4.1, N.add .i64 s4.2.1 1, s4.2.2))))
                                                                                          none)
                                                                                      none)
                                                                                  (some (.inl (s4.1, N.add .i64 s4.2.1 1, s4.2.2))))
                                                                              none)
                                                                          none)
                                                                      (
                                                                        Option.map Sum.inr
                                                                          (
                                                                            N.bind (impl_CanProduce s4.2.2 r2.2.1) fun r21 =>
                                                                              some r21)))
                                                                  (
                                                                    Option.map Sum.inr
                                                                      (
                                                                        N.bind (impl_CanProduce s4.2.2 r2.2.1) fun r22 =>
                                                                          some r22)))
                                                              (N.rem r20 r19, 0, r3.1)))))))))
                  (0, 0)))

end D
end Go.Sh
set_option linter.unusedVariables false
set_option linter.unusedSimpArgs false
namespace Go.Sh
open Go
/-! ## Loops -/
theorem loopN_det {S R : Type} {step : S → Option (S ⊕ R)} : ∀ {n m : Nat} {s : S} {a b : R}, loopN step n s = some a → loopN step m s = some b → a = b
  | 0, _, _, _, _, h, _ => by simp [loopN] at h
  | _ + 1, 0, _, _, _, _, h => by simp [loopN] at h
  | n + 1, m + 1, s, a, b, h1, h2 => by
    simp only [loopN] at h1 h2
    split at h1
    · cases h1
    · rename_i s' hs; rw [hs] at h2; exact loopN_det h1 h2
    · rename_i r hr; rw [hr] at h2; simp at h1 h2; rw [← h1, ← h2]

theorem loopF_of {S R : Type} {step : S → Option (S ⊕ R)} {s : S} {n : Nat} {r : R} (h : loopN step n s = some r) : loopF step s = some r := by
  have hx : ∃ n r, loopN step n s = some r := ⟨n, r, h⟩
  unfold loopF
  rw [dif_pos hx]
  obtain ⟨m, hm⟩ := Classical.choose_spec hx |> fun h => (⟨_, Classical.choose_spec h⟩ : ∃ v, loopN step (Classical.choose hx) s = some v)
  have := Classical.choose_spec (Classical.choose_spec hx)
  rw [loopN_det this h]

theorem loopF_inr {S R : Type} {step : S → Option (S ⊕ R)} {s : S} {r : R} (h : step s = some (.inr r)) : loopF step s = some r :=
  loopF_of (n := 1) (by simp [loopN, h])

theorem loopF_inl {S R : Type} {step : S → Option (S ⊕ R)} {s s' : S} (h : step s = some (.inl s')) : loopF step s = loopF step s' := by
  by_cases hx : ∃ n r, loopN step n s' = some r
  · obtain ⟨n, r, hn⟩ := hx
    rw [loopF_of hn, loopF_of (n := n + 1) (r := r) (by simp [loopN, h, hn])]
  · have hy : ¬ ∃ n r, loopN step n s = some r := by
      rintro ⟨n, r, hn⟩
      cases n with
      | zero => simp [loopN] at hn
      | succ n => simp only [loopN, h] at hn; exact hx ⟨n, r, hn⟩
    unfold loopF
    rw [dif_neg hx, dif_neg hy]

theorem loopF_none {S R : Type} {step : S → Option (S ⊕ R)} {s : S} (h : step s = none) : loopF step s = none := by
  have hy : ¬ ∃ n r, loopN step n s = some r := by
    rintro ⟨n, r, hn⟩
    cases n with
    | zero => simp [loopN] at hn
    | succ n => simp [loopN, h] at hn
  unfold loopF
  rw [dif_neg hy]

theorem loopF_eq {S R : Type} (step : S → Option (S ⊕ R)) (s : S) : loopF step s = match step s with | none => none | some (.inl s') => loopF step s' | some (.inr r) => some r := by
  split
  · rename_i h; exact loopF_none h
  · rename_i s' h; exact loopF_inl h
  · rename_i r h; exact loopF_inr h

/-- counting up to n -/
theorem loop_upto {σ S R : Type} {step : S → Option (S ⊕ R)} (n : Nat) (emb : Nat → σ → S) (st : Nat → σ) (r : R)
    (hstep : ∀ k < n, step (emb k (st k)) = some (.inl (emb (k + 1) (st (k + 1))))) (hend : step (emb n (st n)) = some (.inr r)) : loopF step (emb 0 (st 0)) = some r := by
  have key : ∀ (m k : Nat), k + m = n → loopF step (emb k (st k)) = some r := by
    intro m
    induction m with
    | zero => intro k hk; have : k = n := by omega
              subst this; exact loopF_inr hend
    | succ m ih => intro k hk; rw [loopF_inl (hstep k (by omega))]; exact ih (k + 1) (by omega)
  exact key n 0 (by omega)

/-! ## Words -/

section
variable {R α β : Type}
@[simp] theorem bind_some' (x : β) (f : β → Option R) : N.bind (some x) f = f x := rfl

@[simp] theorem cond_true (x y : Option R) : N.cond true x y = x := rfl

@[simp] theorem cond_false (x y : Option R) : N.cond false x y = y := rfl

theorem cond_if (b : Bool) (x y : Option R) : N.cond b x y = if b = true then x else y := rfl

theorem cond_dec (p : Prop) [Decidable p] (x y : Option R) : N.cond (decide p) x y = if p then x else y := by unfold N.cond; by_cases h : p <;> simp [h]

theorem ite_if (c : Prop) [Decidable c] (x y : Option R) : N.ite c x y = if c then x else y := rfl

theorem nite_pos {c : Prop} [Decidable c] (h : c) (x y : Option R) : N.ite c x y = x := if_pos h

theorem nite_neg {c : Prop} [Decidable c] (h : ¬ c) (x y : Option R) : N.ite c x y = y := if_neg h

theorem lt_d (a b : Int) : N.lt a b = decide (a < b) := rfl

theorem le_d (a b : Int) : N.le a b = decide (a ≤ b) := rfl

theorem gt_d (a b : Int) : N.gt a b = decide (b < a) := rfl

theorem ge_d (a b : Int) : N.ge a b = decide (b ≤ a) := rfl

theorem eq_d (a b : Int) : N.eq a b = decide (a = b) := rfl

theorem ne_d (a b : Int) : N.ne a b = decide (¬ a = b) := by
  unfold N.ne; by_cases h : a = b <;> simp [h]

theorem len_d (xs : List α) : N.len xs = (xs.length : Int) := by simp [N.len]

theorem rd_at (xs : List α) (k : Nat) (hk : k < xs.length) (d : α) : N.rd xs (k : Int) d = xs[k] := by
  simp [N.rd, List.getD, hk]

theorem wrap_id {n : Int} (h1 : -9223372036854775808 ≤ n) (h2 : n < 9223372036854775808) : IntKind.i64.wrap n = n := by
  have e1 : ((2 : Int) ^ IntKind.i64.bits) = 18446744073709551616 := by decide
  have e2 : ((2 : Int) ^ (IntKind.i64.bits - 1)) = 9223372036854775808 := by decide
  have e3 : IntKind.i64.signed = true := rfl
  unfold IntKind.wrap
  rw [e1, e2, e3]
  simp only [Bool.true_and, decide_eq_true_eq]
  split <;> omega

theorem add_id {a b : Int} (h1 : -9223372036854775808 ≤ a + b) (h2 : a + b < 9223372036854775808) : N.add .i64 a b = a + b := wrap_id h1 h2

theorem sub_id {a b : Int} (h1 : -9223372036854775808 ≤ a - b) (h2 : a - b < 9223372036854775808) : N.sub .i64 a b = a - b := wrap_id h1 h2

theorem mul_id {a b : Int} (h1 : -9223372036854775808 ≤ a * b) (h2 : a * b < 9223372036854775808) : N.mul .i64 a b = a * b := wrap_id h1 h2

theorem next_id {k n : Nat} (hk : k < n) (hn : (n : Int) < 9223372036854775808) : N.add .i64 (k : Int) 1 = ((k + 1 : Nat) : Int) := by
  rw [add_id (by omega) (by omega)]; omega

end
end Go.Sh
set_option linter.unusedVariables false
set_option linter.unusedSimpArgs false
namespace Go.Sh
open Go
/-! ## Bounds of data -/
class Data (α : Type) where
  bd : α → Prop
  ok : α → Prop
  le : ∀ x, ok x → bd x

class Flat (α : Type) [Data α] where
  fl : ∀ x : α, Data.bd x → Data.ok x

open Data
instance : Data Int := ⟨fun x => -9223372036854775808 ≤ x ∧ x < 9223372036854775808, fun x => -9223372036854775808 ≤ x ∧ x < 9223372036854775808, fun _ h => h⟩

instance : Data Bool := ⟨fun _ => True, fun _ => True, fun _ h => h⟩

instance : Data ByteArray := ⟨fun s => s.size ≤ 4611686018427387904, fun s => s.size ≤ 4611686018427387904, fun _ h => h⟩

instance {α β : Type} [Data α] [Data β] : Data (α × β) := ⟨fun x => bd x.1 ∧ bd x.2, fun x => ok x.1 ∧ ok x.2, fun x h => ⟨le _ h.1, le _ h.2⟩⟩

instance {α : Type} [Data α] : Data (List α) := ⟨fun xs => xs.length ≤ 4611686018427387904 ∧ ∀ x ∈ xs, bd x, fun xs => xs.length ≤ 1048576 ∧ ∀ x ∈ xs, ok x, fun xs h => ⟨by omega, fun x hx => le x (h.2 x hx)⟩⟩

instance : Flat Int := ⟨fun _ h => h⟩

instance : Flat Bool := ⟨fun _ h => h⟩

instance : Flat ByteArray := ⟨fun _ h => h⟩

instance {α β : Type} [Data α] [Data β] [Flat α] [Flat β] : Flat (α × β) := ⟨fun x h => ⟨Flat.fl _ h.1, Flat.fl _ h.2⟩⟩

section
variable {α : Type} [Data α]
theorem Data.ok.at {xs : List α} (h : ok xs) {k : Nat} (hk : k < xs.length) : ok xs[k] := h.2 _ (List.getElem_mem hk)

theorem Data.bd.at {xs : List α} (h : bd xs) {k : Nat} (hk : k < xs.length) : bd xs[k] := h.2 _ (List.getElem_mem hk)

theorem Data.ok.sub {xs ys : List α} (h : ok xs) (hs : ys.Sublist xs) : ok ys := ⟨Nat.le_trans hs.length_le h.1, fun x hx => h.2 x (hs.subset hx)⟩

end
/-! ## Words, once more -/

section
variable {R α β : Type}
theorem eqB_d (a b : Bool) : N.eqB a b = decide (a = b) := by cases a <;> cases b <;> rfl

theorem not_d (p : Prop) [Decidable p] : N.not (decide p) = decide (¬ p) := by unfold N.not; by_cases h : p <;> simp [h]

theorem not_b (b : Bool) : N.not b = !b := rfl

theorem zip_all_eq [DecidableEq α] : ∀ {xs ys : List α}, xs.length = ys.length → ((List.zip xs ys).all fun p => decide (p.1 = p.2)) = decide (xs = ys)
  | [], [], _ => by simp
  | x :: xs, y :: ys, h => by
    simp only [List.zip_cons_cons, List.all_cons, zip_all_eq (xs := xs) (ys := ys) (by simpa using h)]
    by_cases h1 : x = y <;> by_cases h2 : xs = ys <;> simp [h1, h2]
  | [], _ :: _, h => by simp at h
  | _ :: _, [], h => by simp at h

end
end Go.Sh
set_option linter.unusedVariables false
set_option linter.unusedSimpArgs false
set_option synthInstance.maxSize 100000
set_option maxHeartbeats 1000000
namespace Go.Sh
open Go Data
namespace D
end D
end Go.Sh
set_option linter.unusedVariables false
set_option linter.unusedSimpArgs false
set_option synthInstance.maxSize 100000
set_option maxHeartbeats 1000000
namespace Go.Sh
open Go Data
namespace D
theorem impl_InRange_is (a b c : Int) : impl_InRange a b c = some (decide (b ≤ a ∧ a ≤ c)) := by
  unfold impl_InRange
  simp only [ge_d, le_d, cond_dec]
  by_cases h1 : b ≤ a <;> by_cases h2 : a ≤ c <;> simp [h1, h2]

theorem rem_pos {a b : Int} (ha : 0 ≤ a) : N.rem a b = a % b := by unfold N.rem; exact Int.tmod_eq_emod_of_nonneg ha

theorem mod_core {p q : Int} (h1 : 1 ≤ q) (h2 : q ≤ 1000000000000) : N.rem (N.add .i64 (N.rem p q) q) q = p % q := by
  have hr : -q < p.tmod q ∧ p.tmod q < q := by
    constructor
    · have := Int.lt_tmod_of_pos p (by omega : 0 < q); omega
    · exact Int.tmod_lt_of_pos p (by omega)
  have e : N.add .i64 (N.rem p q) q = p.tmod q + q := add_id (by unfold N.rem; omega) (by unfold N.rem; omega)
  rw [e, rem_pos (by omega)]
  have : p.tmod q % q = p % q := by
    have h := Int.mul_tdiv_add_tmod p q
    conv => rhs; rw [← h]
    simp [Int.add_emod]
  rw [Int.add_emod, Int.emod_self, Int.add_zero, Int.emod_emod_of_dvd _ (Int.dvd_refl q), this]

theorem impl_Mod_is {p q : Int} (h1 : 1 ≤ q) (h2 : q ≤ 1000000000000) : impl_Mod p q = some (p % q) := by
  unfold impl_Mod
  rw [impl_InRange_is, bind_some', not_d, cond_dec, if_neg (by simp; omega), nite_neg (by omega), nite_neg (by omega), mod_core h1 h2]

/-! ## Hash -/
def hash1 (h v : Int) : Int := (h * 1000003 + v % 2147483647 + 13) % 2147483647

def hashP (l : List Int) : Int := l.foldl hash1 11

theorem hash1_in (h v : Int) : 0 ≤ hash1 h v ∧ hash1 h v < 2147483647 := by unfold hash1; omega

theorem hash_fold : ∀ (l : List Int) (h : Int), 0 ≤ h → h < 2147483647 → 0 ≤ l.foldl hash1 h ∧ l.foldl hash1 h < 2147483647
  | [], h, h0, h1 => ⟨h0, h1⟩
  | v :: l, h, _, _ => hash_fold l (hash1 h v) (hash1_in h v).1 (hash1_in h v).2

theorem hash_step {h v : Int} (h0 : 0 ≤ h) (h1 : h < 2147483647) : N.rem (N.add .i64 (N.add .i64 (N.mul .i64 h 1000003) (v % 2147483647)) 13) 2147483647 = hash1 h v := by
  rw [mul_id (by omega) (by omega), add_id (a := h * 1000003) (b := v % 2147483647) (by omega) (by omega), add_id (by omega) (by omega), rem_pos (by omega)]; rfl

def hashBody (mod : Int → Int → Option Int) (l : List Int) (s1 : Int × Int) : Option ((Int × Int) ⊕ Int) :=
  N.cond (N.lt s1.2 (N.len l)) (N.ite (0 ≤ s1.2) (N.ite (s1.2 < N.len l) (N.bind (mod (N.rd l s1.2 0) 2147483647) fun r1 => some (.inl (N.rem (N.add .i64 (N.add .i64 (N.mul .i64 s1.1 1000003) r1) 13) 2147483647, N.add .i64 s1.2 1))) none) none) (some (.inr s1.1))

theorem hash_loop {mod : Int → Int → Option Int} (hm : ∀ v, mod v 2147483647 = some (v % 2147483647)) {l : List Int} (hl : l.length ≤ 4611686018427387904) : loopF (hashBody mod l) (11, 0) = some (hashP l) := by
  refine loop_upto l.length (fun k (h : Int) => (h, (k : Int))) (fun k => (l.take k).foldl hash1 11) (hashP l) (fun k hk => ?_) ?_
  · have hin := hash_fold (l.take k) 11 (by omega) (by omega)
    have hb : hashBody mod l ((l.take k).foldl hash1 11, (k : Int)) = some (.inl (hash1 ((l.take k).foldl hash1 11) l[k], ((k + 1 : Nat) : Int))) := by
      simp only [hashBody, ite_if]; simp only [lt_d, len_d, cond_dec]
      rw [if_pos (by omega), if_pos (by omega), if_pos (by omega), rd_at l k hk, hm, bind_some', hash_step hin.1 hin.2, next_id hk (by omega)]
    simp only [hb, List.take_succ_eq_append_getElem hk, List.foldl_append, List.foldl_cons, List.foldl_nil]
  · simp only [hashBody, lt_d, len_d, cond_dec, List.take_length]
    rw [if_neg (by omega)]; rfl

theorem impl_Hash_is {l : List Int} (hl : l.length ≤ 4611686018427387904) : impl_Hash l = some (hashP l) := hash_loop (mod := impl_Mod) (fun v => impl_Mod_is (by omega) (by omega)) hl

theorem fits8 {α : Type} {xs ys : List α} (h : xs.length + ys.length ≤ 17592186044416) : N.fits xs ys 8 := by unfold N.fits; omega

end D
end Go.Sh
set_option linter.unusedVariables false
set_option linter.unusedSimpArgs false
set_option synthInstance.maxSize 100000
set_option maxHeartbeats 1000000
namespace Go.Sh
open Go Data
/-! ## Loops that look for something -/
theorem loop_find {α S R : Type} {step : S → Option (S ⊕ R)} (xs : List α) (emb : Nat → S) (p : α → Option R) (r0 : R)
    (hstep : ∀ (k : Nat) (hk : k < xs.length), step (emb k) = some (match p xs[k] with | some r => .inr r | none => .inl (emb (k + 1))))
    (hend : step (emb xs.length) = some (.inr r0)) : loopF step (emb 0) = some ((xs.findSome? p).getD r0) := by
  have key : ∀ (m k : Nat), k + m = xs.length → loopF step (emb k) = some (((xs.drop k).findSome? p).getD r0) := by
    intro m
    induction m with
    | zero =>
      intro k hk
      have hk' : k = xs.length := by omega
      subst hk'
      rw [loopF_inr hend, List.drop_length]; rfl
    | succ m ih =>
      intro k hk
      have hlt : k < xs.length := by omega
      rw [List.drop_eq_getElem_cons hlt, List.findSome?_cons]
      cases hp : p xs[k] with
      | none => rw [loopF_inl (s' := emb (k + 1)) (by rw [hstep k hlt, hp]), ih (k + 1) (by omega)]
      | some r => rw [loopF_inr (r := r) (by rw [hstep k hlt, hp])]; rfl
  simpa using key xs.length 0 (by omega)

theorem loop_all {α S : Type} {step : S → Option (S ⊕ Bool)} (xs : List α) (emb : Nat → S) (p : α → Bool)
    (hstep : ∀ (k : Nat) (hk : k < xs.length), step (emb k) = some (if p xs[k] = true then .inl (emb (k + 1)) else .inr false))
    (hend : step (emb xs.length) = some (.inr true)) : loopF step (emb 0) = some (xs.all p) := by
  rw [loop_find xs emb (fun x => if p x = true then none else some false) true (fun k hk => by rw [hstep k hk]; split <;> rfl) hend]
  congr 1
  clear hstep hend
  induction xs with
  | nil => rfl
  | cons y ys ih2 => rw [List.findSome?_cons, List.all_cons]; cases hp : p y <;> simp [ih2]

/-- looking for a place -/
theorem loop_index {α S : Type} {step : S → Option (S ⊕ Int)} (xs : List α) (emb : Nat → S) (p : α → Bool)
    (hstep : ∀ (k : Nat) (hk : k < xs.length), step (emb k) = some (if p xs[k] = true then .inr (k : Int) else .inl (emb (k + 1))))
    (hend : step (emb xs.length) = some (.inr (-1))) : loopF step (emb 0) = some (if xs.any p = true then (xs.findIdx p : Int) else -1) := by
  have key : ∀ (m k : Nat), k + m = xs.length → loopF step (emb k) = some (if (xs.drop k).any p = true then ((k + (xs.drop k).findIdx p : Nat) : Int) else -1) := by
    intro m
    induction m with
    | zero =>
      intro k hk
      have hk' : k = xs.length := by omega
      subst hk'
      rw [loopF_inr hend, List.drop_length]; rfl
    | succ m ih =>
      intro k hk
      have hlt : k < xs.length := by omega
      rw [List.drop_eq_getElem_cons hlt, List.any_cons, List.findIdx_cons]
      cases hp : p xs[k] with
      | false =>
        rw [loopF_inl (s' := emb (k + 1)) (by rw [hstep k hlt, hp]; rfl), ih (k + 1) (by omega)]
        simp only [Bool.false_or, _root_.cond_false]
        split
        · congr 2; omega
        · rfl
      | true => rw [loopF_inr (r := (k : Int)) (by rw [hstep k hlt, hp]; rfl)]; simp
  simpa using key xs.length 0 (by omega)

namespace D
/-! ## Lists of numbers -/
theorem slices_Index_int_is {l : List Int} (h : l.length ≤ 4611686018427387904) (x : Int) : slices_Index_int l x = some (if l.any (fun y => decide (x = y)) = true then (l.findIdx (fun y => decide (x = y)) : Int) else -1) := by
  refine loop_index l (fun k => (k : Int)) (fun y => decide (x = y)) (fun k hk => ?_) ?_
  · have h0 : (0 : Int) ≤ (k : Int) := by omega
    have h1 : (k : Int) < (l.length : Int) := by omega
    simp only [ite_if]; simp only [lt_d, len_d, cond_dec, h0, h1, if_true, rd_at l k hk, eq_d, next_id hk (by omega), decide_eq_true_eq]
    split <;> rfl
  · simp only [lt_d, len_d, cond_dec]; rw [if_neg (by omega)]

theorem slices_Contains_int_is {l : List Int} (h : l.length ≤ 4611686018427387904) (x : Int) : slices_Contains_int l x = some (decide (x ∈ l)) := by
  unfold slices_Contains_int
  rw [slices_Index_int_is h, bind_some', ge_d]
  congr 1
  by_cases hx : x ∈ l
  · have : l.any (fun y => decide (x = y)) = true := List.any_eq_true.2 ⟨x, hx, by simp⟩
    rw [if_pos this]; simp [hx]
  · have : ¬ l.any (fun y => decide (x = y)) = true := fun h => by
      obtain ⟨y, hy, e⟩ := List.any_eq_true.1 h
      simp at e; subst e; exact hx hy
    rw [if_neg this]; simp [hx]

/-! ## Counts -/

/-- how many of a list, by place -/
def countAt {α : Type} (p : Nat → α → Bool) : List α → Nat → Int
  | [], _ => 0
  | x :: xs, k => (if p k x = true then 1 else 0) + countAt p xs (k + 1)

theorem countAt_le {α : Type} {p : Nat → α → Bool} : ∀ (xs : List α) (k : Nat), 0 ≤ countAt p xs k ∧ countAt p xs k ≤ xs.length
  | [], _ => by simp [countAt]
  | x :: xs, k => by have := countAt_le (p := p) xs (k + 1); simp only [countAt, List.length_cons]; split <;> omega

theorem countAt_append {α : Type} {p : Nat → α → Bool} : ∀ (xs ys : List α) (k : Nat), countAt p (xs ++ ys) k = countAt p xs k + countAt p ys (k + xs.length)
  | [], ys, k => by simp [countAt]
  | x :: xs, ys, k => by simp only [List.cons_append, countAt, countAt_append xs ys (k + 1), List.length_cons]; rw [show k + 1 + xs.length = k + (xs.length + 1) by omega]; omega

theorem loop_count {α : Type} {step : Int × Int → Option ((Int × Int) ⊕ Int)} (xs : List α) (p : Nat → α → Bool) (hl : xs.length ≤ 4611686018427387904)
    (hstep : ∀ (k : Nat) (hk : k < xs.length) (c : Int), step (c, (k : Int)) = some (.inl (if p k xs[k] = true then N.add .i64 c 1 else c, N.add .i64 (k : Int) 1)))
    (hend : ∀ c, step (c, (xs.length : Int)) = some (.inr c)) : loopF step (0, 0) = some (countAt p xs 0) := by
  refine loop_upto (r := countAt p xs 0) xs.length (fun k (c : Int) => (c, (k : Int))) (fun k => countAt p (xs.take k) 0) (fun k hk => ?_) ?_
  · rw [hstep k hk, next_id hk (by omega)]
    congr 3
    rw [List.take_succ_eq_append_getElem hk, countAt_append, List.length_take, Nat.min_eq_left (by omega)]
    have := countAt_le (p := p) (xs.take k) 0
    simp only [List.length_take] at this
    simp only [countAt, Nat.zero_add]
    split
    · rw [add_id (by omega) (by omega)]; omega
    · omega
  · rw [hend, List.take_length]

/-- a library with a good copy -/
def goodP (x : Int) (l : Library) : Bool := l.2.2.1 && !l.2.2.2 && decide (x ∈ l.2.1)

theorem impl_GoodCopies_is {l : List Library} (h : ok l) (x : Int) : impl_GoodCopies l x = some (countAt (fun _ a => goodP x a) l 0) := by
  refine loop_count l _ (by have := h.1; omega) (fun k hk c => ?_) fun c => ?_
  · have h0 : (0 : Int) ≤ (k : Int) := by omega
    have h1 : (k : Int) < (l.length : Int) := by omega
    have hd := (h.at hk).2.1.1
    simp only [ite_if]; simp only [lt_d, len_d, cond_dec, h0, h1, if_true, rd_at l k hk, bind_some', not_b]
    rw [slices_Contains_int_is (by omega)]
    simp only [bind_some', goodP, cond_if, decide_eq_true_eq]
    by_cases c1 : (l[k]).2.2.1 = true <;> by_cases c2 : (l[k]).2.2.2 = true <;> by_cases c3 : x ∈ (l[k]).2.1 <;> simp [c1, c2, c3]
  · simp only [lt_d, len_d, cond_dec]; rw [if_neg (by omega)]

theorem impl_CanProduce_is {l : List Library} (h : ok l) (x : Int) : impl_CanProduce l x = some (decide (1 ≤ countAt (fun _ a => goodP x a) l 0)) := by
  unfold impl_CanProduce; rw [impl_GoodCopies_is h]; rfl

end D
end Go.Sh
set_option linter.unusedVariables false
set_option linter.unusedSimpArgs false
set_option synthInstance.maxSize 100000
set_option maxHeartbeats 1000000
namespace Go.Sh
open Go Data
theorem loop_eq2 {α S : Type} [DecidableEq α] {step : S → Option (S ⊕ Bool)} (xs ys : List α) (emb : Nat → S) (hl : xs.length = ys.length)
    (hstep : ∀ (k : Nat) (hk : k < xs.length) (hk' : k < ys.length), step (emb k) = some (if xs[k] = ys[k] then .inl (emb (k + 1)) else .inr false))
    (hend : step (emb xs.length) = some (.inr true)) : loopF step (emb 0) = some (decide (xs = ys)) := by
  rw [← zip_all_eq hl]
  refine loop_all (xs.zip ys) emb (fun p => decide (p.1 = p.2)) (fun k hk => ?_) ?_
  · have h1 : k < xs.length := by simp at hk; omega
    rw [hstep k h1 (by omega)]
    simp only [List.getElem_zip, decide_eq_true_eq]
  · rw [List.length_zip, ← hl, Nat.min_self]; exact hend

/-- collecting -/
theorem loop_flat {α β : Type} {step : List β × Int → Option ((List β × Int) ⊕ List β)} (xs : List α) (f : α → List β)
    (hstep : ∀ (k : Nat) (hk : k < xs.length), step ((xs.take k).flatMap f, (k : Int)) = some (.inl ((xs.take k).flatMap f ++ f xs[k], ((k + 1 : Nat) : Int))))
    (hend : step (xs.flatMap f, (xs.length : Int)) = some (.inr (xs.flatMap f))) : loopF step ([], 0) = some (xs.flatMap f) := by
  refine loop_upto (r := xs.flatMap f) xs.length (fun k (a : List β) => (a, (k : Int))) (fun k => (xs.take k).flatMap f) (fun k hk => ?_) ?_
  · rw [hstep k hk, List.take_succ_eq_append_getElem hk, List.flatMap_append]; simp
  · rw [List.take_length]; exact hend

theorem flat_len {α β : Type} {f : α → List β} {m : Nat} : ∀ (xs : List α), (∀ x ∈ xs, (f x).length ≤ m) → (xs.flatMap f).length ≤ xs.length * m
  | [], _ => by simp
  | x :: xs, h => by
    have h1 := flat_len xs fun y hy => h y (by simp [hy])
    have h2 := h x (by simp)
    simp only [List.flatMap_cons, List.length_append, List.length_cons, Nat.add_mul]; omega

theorem take_flat_len {α β : Type} {f : α → List β} {m k : Nat} {xs : List α} (h : ∀ x ∈ xs, (f x).length ≤ m) (hk : k ≤ xs.length) : ((xs.take k).flatMap f).length ≤ k * m := by
  have := flat_len (xs.take k) fun y hy => h y (List.mem_of_mem_take hy)
  simpa [Nat.min_eq_left hk] using this

theorem fitsN {α : Type} {xs ys : List α} {b : Nat} (h : xs.length + ys.length ≤ 100000000) (hb : b ≤ 1000000) : N.fits xs ys b := by
  unfold N.fits
  exact Nat.le_trans (Nat.mul_le_mul h hb) (by decide)

namespace D
theorem eq_len {α : Type} [DecidableEq α] {x y : List α} {K : Option Bool} (h : x.length = y.length → K = some (decide (x = y))) : N.cond (N.ne (N.len x) (N.len y)) (some false) K = some (decide (x = y)) := by
  simp only [ne_d, len_d, cond_dec]
  split
  · rename_i h1
    have : ¬ x = y := fun e => h1 (by rw [e])
    simp [this]
  · exact h (by omega)

theorem slices_Equal_int_is {x y : List Int} (h : x.length ≤ 4611686018427387904) : slices_Equal_int x y = some (decide (x = y)) := by
  refine eq_len fun hl => loop_eq2 x y (fun k => (k : Int)) hl (fun k hk hk' => ?_) ?_
  · have h0 : (0 : Int) ≤ (k : Int) := by omega
    have h1 : (k : Int) < (x.length : Int) := by omega
    have h2 : (k : Int) < (y.length : Int) := by omega
    simp only [ite_if]; simp only [lt_d, len_d, cond_dec, h0, h1, h2, if_true, rd_at x k hk, rd_at y k hk', ne_d, next_id hk (by omega)]
    by_cases e : x[k] = y[k] <;> simp [e]
  · simp only [lt_d, len_d, cond_dec]; rw [if_neg (by omega)]

/-! ### Libraries -/
theorem impl_EqualLibraries_1_is {x y : Library} (h : ok x) : impl_EqualLibraries_1 x y = some (decide (x = y)) := by
  unfold impl_EqualLibraries_1
  rw [slices_Equal_int_is (by have := h.2.1.1; omega), bind_some']
  obtain ⟨a, b, c, d⟩ := x; obtain ⟨a', b', c', d'⟩ := y
  simp only [eq_d, eqB_d, cond_dec, Prod.mk.injEq]
  by_cases e0 : a = a' <;> by_cases e1 : b = b' <;> by_cases e2 : c = c' <;> by_cases e3 : d = d' <;> simp [e0, e1, e2, e3]

theorem impl_EqualLibraries_is {x y : List Library} (h : ok x) : impl_EqualLibraries x y = some (decide (x = y)) := by
  have e : slices_EqualFunc_Library_impl_EqualLibraries_1 x y = some (decide (x = y)) := by
    have hx := h.1
    refine eq_len fun hl => loop_eq2 x y (fun k => (k : Int)) hl (fun k hk hk' => ?_) ?_
    · have h0 : (0 : Int) ≤ (k : Int) := by omega
      have h1 : (k : Int) < (x.length : Int) := by omega
      have h2 : (k : Int) < (y.length : Int) := by omega
      simp only [ite_if]; simp only [lt_d, len_d, cond_dec, h0, h1, h2, if_true, rd_at x k hk, rd_at y k hk', impl_EqualLibraries_1_is (h.at hk), bind_some', not_d, next_id hk (by omega)]
      by_cases e : x[k] = y[k] <;> simp [e]
    · simp only [lt_d, len_d, cond_dec]; rw [if_neg (by omega)]
  unfold impl_EqualLibraries
  rw [e]; rfl

end D
end Go.Sh
set_option linter.unusedVariables false
set_option linter.unusedSimpArgs false
set_option synthInstance.maxSize 100000
set_option maxHeartbeats 1000000
namespace Go.Sh
open Go Data
namespace D
end D
end Go.Sh
set_option linter.unusedVariables false
set_option linter.unusedSimpArgs false
set_option synthInstance.maxSize 100000
set_option maxHeartbeats 1000000
namespace Go.Sh
open Go Data
namespace D
end D
end Go.Sh
set_option linter.unusedVariables false
set_option linter.unusedSimpArgs false
set_option synthInstance.maxSize 100000
set_option maxHeartbeats 1000000
namespace Go.Sh
open Go Data
theorem set_at {α : Type} (xs : List α) (i : Nat) (v : α) : N.set xs (i : Int) v = xs.set i v := by simp [N.set]

namespace D
end D
end Go.Sh
set_option linter.unusedVariables false
set_option linter.unusedSimpArgs false
set_option synthInstance.maxSize 100000
set_option maxHeartbeats 1000000
namespace Go.Sh
open Go Data
namespace D
end D
end Go.Sh
set_option linter.unusedVariables false
set_option linter.unusedSimpArgs false
set_option synthInstance.maxSize 100000
set_option maxHeartbeats 1000000
namespace Go.Sh
open Go Data
namespace D
end D
end Go.Sh
set_option linter.unusedVariables false
set_option linter.unusedSimpArgs false
set_option synthInstance.maxSize 100000
set_option maxHeartbeats 1000000
namespace Go.Sh
open Go Data
namespace D
end D
end Go.Sh
set_option linter.unusedVariables false
set_option linter.unusedSimpArgs false
set_option synthInstance.maxSize 100000
set_option maxHeartbeats 1000000
namespace Go.Sh
open Go Data
theorem nilc_same {α : Type} {x : List α} {y : Option (List α)} (h : y = some x) : N.nilc (N.isE x) (some []) y = some x := by
  unfold N.nilc
  subst h
  cases x with
  | nil => simp [N.isE]
  | cons a x => simp [N.isE]

namespace D
/-! ## Copies -/
theorem slices_Clone_int_is {l : List Int} (h : l.length ≤ 100000000) : slices_Clone_int l = some l := by
  unfold slices_Clone_int
  refine nilc_same ?_
  rw [nite_pos (fitsN (by simpa using h) (by omega))]; simp [N.app]

end D
end Go.Sh
set_option linter.unusedVariables false
set_option linter.unusedSimpArgs false
set_option synthInstance.maxSize 100000
set_option maxHeartbeats 1000000
namespace Go.Sh
open Go Data
/-! ## What is drawn: it comes back, and keeps its bounds -/
def Gets {α : Type} (P : α → Prop) (r : Option α) : Prop := ∃ x, r = some x ∧ P x

section
variable {α β S R : Type} {P : α → Prop} {Q : R → Prop}
theorem Gets.pure {x : R} (h : Q x) : Gets Q (some x) := ⟨x, rfl, h⟩

theorem Gets.bind {x : Option α} {f : α → Option R} (h : Gets P x) (hf : ∀ a, P a → Gets Q (f a)) : Gets Q (N.bind x f) := by
  obtain ⟨a, rfl, ha⟩ := h; exact hf a ha

theorem Gets.cond {b : Bool} {x y : Option R} (h1 : b = true → Gets Q x) (h2 : b = false → Gets Q y) : Gets Q (N.cond b x y) := by
  unfold N.cond; cases b
  · exact h2 rfl
  · exact h1 rfl

theorem Gets.ite {c : Prop} [Decidable c] {x y : Option R} (hc : c) (h : Gets Q x) : Gets Q (N.ite c x y) := by rw [nite_pos hc]; exact h

theorem Gets.nite {c : Prop} [Decidable c] {x y : Option R} (hc : ¬ c) (h : Gets Q y) : Gets Q (N.ite c x y) := by rw [nite_neg hc]; exact h

theorem Gets.let_ {x : α} {f : α → Option R} (h : Gets Q (f x)) : Gets Q (N.let_ x f) := h

theorem Gets.loop {step : S → Option (S ⊕ R)} (I : S → Prop) (m : S → Nat)
    (hs : ∀ s, I s → Gets (fun r => match r with | .inl s' => I s' ∧ m s' < m s | .inr r => Q r) (step s)) (s : S) (h : I s) : Gets Q (loopF step s) := by
  generalize hn : m s = n
  induction n using Nat.strongRecOn generalizing s with
  | ind n ih =>
    obtain ⟨r, e, hr⟩ := hs s h
    cases r with
    | inl s' => rw [loopF_inl e]; exact ih (m s') (by rw [← hn]; exact hr.2) s' hr.1 rfl
    | inr r => exact ⟨r, loopF_inr e, hr⟩

end
theorem ok_num {x : Int} (h1 : -9223372036854775808 ≤ x) (h2 : x < 9223372036854775808) : ok x := ⟨h1, h2⟩

theorem and_255 (a : Int) : 0 ≤ N.and .i64 a 255 ∧ N.and .i64 a 255 ≤ 255 := by
  have h : (BitVec.ofInt 64 a &&& BitVec.ofInt 64 255).toNat ≤ 255 := by
    rw [BitVec.toNat_and]; exact Nat.and_le_right
  have e : N.and .i64 a 255 = (((BitVec.ofInt 64 a &&& BitVec.ofInt 64 255).toNat : Nat) : Int) := by
    show IntKind.i64.wrap _ = _
    exact wrap_id (by show _ ≤ (((BitVec.ofInt 64 a &&& BitVec.ofInt 64 255).toNat : Nat) : Int); omega) (by show (((BitVec.ofInt 64 a &&& BitVec.ofInt 64 255).toNat : Nat) : Int) < _; omega)
  rw [e]; omega

def few {α : Type} [Data α] (n : Nat) (xs : List α) : Prop := xs.length ≤ n ∧ ∀ x ∈ xs, ok x

theorem few.ok {α : Type} [Data α] {n : Nat} {xs : List α} (h : few n xs) (hn : n ≤ 1048576) : ok xs := ⟨Nat.le_trans h.1 hn, h.2⟩

theorem few.app {α : Type} [Data α] {n m : Nat} {xs : List α} {x : α} (h : few n xs) (hx : Data.ok x) (hm : n + 1 ≤ m) : few m (N.app xs [x]) :=
  ⟨by have := h.1; simp [N.app]; omega, fun y hy => by
    rcases List.mem_append.1 hy with hy | hy
    · exact h.2 y hy
    · simp at hy; subst hy; exact hx⟩

theorem few.set {α : Type} [Data α] {n : Nat} {xs : List α} {x : α} {i : Int} (h : few n xs) (hx : Data.ok x) : few n (N.set xs i x) :=
  ⟨by have := h.1; simp [N.set]; omega, fun y hy => by
    rcases List.mem_or_eq_of_mem_set hy with hy | hy
    · exact h.2 y hy
    · subst hy; exact hx⟩

theorem few.rd {α : Type} [Data α] {n : Nat} {xs : List α} {i : Int} {d : α} (h : few n xs) (hd : Data.ok d) : Data.ok (N.rd xs i d) := by
  unfold N.rd
  rw [List.getD_eq_getElem?_getD]
  cases e : xs[i.toNat]? with
  | none => exact hd
  | some x => exact h.2 x (List.mem_of_getElem? e)

namespace D
/-! ## The source of bytes -/
def curOk (c : l1Cur) : Prop := 0 ≤ c.2.1 ∧ c.2.1 ≤ (c.1.length : Int) ∧ c.1.length ≤ 1048576

theorem spec_l1New_is {x : List Int} (h : x.length ≤ 1048576) : Gets curOk (spec_l1New x) := by
  refine Gets.loop (I := fun s => 0 ≤ s.2) (m := fun s => x.length - s.2.toNat) (fun s hs => ?_) _ (by show (0 : Int) ≤ 0; omega)
  obtain ⟨a, i⟩ := s
  simp only at hs
  refine Gets.cond (fun h1 => Gets.cond (fun h2 => Gets.ite hs (Gets.ite ?_ (Gets.pure ?_))) fun _ => Gets.pure ⟨by simp only; omega, by simp only; omega, h⟩) fun _ => Gets.pure ⟨by simp only; omega, by simp only; omega, h⟩
  · simpa [N.lt] using h1
  · simp only [lt_d, len_d, decide_eq_true_eq] at h1
    have e : N.add .i64 i 1 = i + 1 := add_id (by omega) (by omega)
    simp only [e]; omega

theorem spec_l1Byte_is {c : l1Cur} (h : curOk c) : Gets (fun r => (0 ≤ r.1 ∧ r.1 ≤ 255) ∧ curOk r.2) (spec_l1Byte c) := by
  obtain ⟨xs, i, s⟩ := c
  obtain ⟨h1, h2, h3⟩ := h
  simp only at h1 h2 h3
  refine Gets.cond (fun h4 => Gets.ite h1 (Gets.ite ?_ (Gets.pure ⟨and_255 _, ?_⟩))) fun _ => Gets.pure ⟨and_255 _, h1, h2, h3⟩
  · simpa [N.lt] using h4
  · simp only [lt_d, len_d, decide_eq_true_eq] at h4
    have e : N.add .i64 i 1 = i + 1 := add_id (by omega) (by omega)
    refine ⟨?_, ?_, h3⟩ <;> simp only [e] <;> omega

theorem spec_l1Below_is {c : l1Cur} (h : curOk c) {n : Int} (h0 : 0 < n) : Gets (fun r => (0 ≤ r.1 ∧ r.1 < n) ∧ curOk r.2) (spec_l1Below c n) := by
  refine Gets.cond (fun h1 => ?_) fun _ => Gets.cond (fun _ => ?_) fun _ => ?_
  · simp only [le_d, decide_eq_true_eq] at h1; omega
  · refine Gets.bind (spec_l1Byte_is h) fun r ⟨h1, h2⟩ => Gets.nite (by omega) (Gets.pure ⟨?_, h2⟩)
    simp only [rem_pos h1.1]; exact ⟨Int.emod_nonneg _ (by omega), Int.emod_lt_of_pos _ h0⟩
  · refine Gets.bind (spec_l1Byte_is h) fun r ⟨h1, h2⟩ => Gets.bind (spec_l1Byte_is h2) fun r3 ⟨h3, h4⟩ => Gets.bind (spec_l1Byte_is h4) fun r4 ⟨h5, h6⟩ => Gets.nite (by omega) (Gets.pure ⟨?_, h6⟩)
    have e1 : N.mul .i64 r.1 65536 = r.1 * 65536 := mul_id (by omega) (by omega)
    have e2 : N.mul .i64 r3.1 256 = r3.1 * 256 := mul_id (by omega) (by omega)
    have e3 : N.add .i64 (r.1 * 65536) (r3.1 * 256) = r.1 * 65536 + r3.1 * 256 := add_id (by omega) (by omega)
    have e4 : N.add .i64 (r.1 * 65536 + r3.1 * 256) r4.1 = r.1 * 65536 + r3.1 * 256 + r4.1 := add_id (by omega) (by omega)
    simp only [e1, e2, e3, e4]
    rw [rem_pos (by omega)]
    exact ⟨Int.emod_nonneg _ (by omega), Int.emod_lt_of_pos _ h0⟩

theorem spec_l1Int_is {c : l1Cur} (h : curOk c) {l : List Int} (hl : 0 < l.length) (hk : ∀ x ∈ l, ok x) : Gets (fun r => (ok r.1 ∧ r.1 ∈ l) ∧ curOk r.2) (spec_l1Int c l) := by
  refine Gets.bind (spec_l1Below_is h (n := N.len l) (by rw [len_d]; omega)) fun r ⟨⟨h1, h2⟩, h3⟩ => Gets.ite h1 (Gets.ite h2 (Gets.pure ⟨?_, h3⟩))
  rw [len_d] at h2
  have e : r.1 = ((r.1.toNat : Nat) : Int) := by omega
  have hm : N.rd l r.1 0 ∈ l := by rw [e, rd_at l r.1.toNat (by omega)]; exact List.getElem_mem _
  exact ⟨hk _ hm, hm⟩

theorem spec_l4Raw_is {c : l1Cur} (h : curOk c) : Gets (fun r => ok r.1 ∧ curOk r.2) (spec_l4Raw c) :=
  Gets.bind (spec_l1Int_is h (by simp) (by simp [ok])) fun r ⟨h1, h2⟩ => Gets.pure ⟨h1.1, h2⟩

end D
end Go.Sh
set_option linter.unusedVariables false
set_option linter.unusedSimpArgs false
set_option synthInstance.maxSize 100000
set_option maxHeartbeats 2000000
namespace Go.Sh
open Go Data
namespace D
end D
end Go.Sh
set_option linter.unusedVariables false
set_option linter.unusedSimpArgs false
set_option synthInstance.maxSize 100000
set_option maxHeartbeats 2000000
namespace Go.Sh
open Go Data
namespace D
theorem spec_l1Once_is {c : l1Cur} (h : curOk c) {n : Int} (h0 : 0 < n) : Gets (fun r => curOk r.2) (spec_l1Once c n) :=
  Gets.bind (spec_l1Below_is h h0) fun r ⟨_, h2⟩ => Gets.pure h2

end D
end Go.Sh
set_option linter.unusedVariables false
set_option linter.unusedSimpArgs false
set_option synthInstance.maxSize 100000
set_option maxHeartbeats 4000000
namespace Go.Sh
open Go Data
namespace D
end D
end Go.Sh
set_option linter.unusedVariables false
set_option linter.unusedSimpArgs false
set_option synthInstance.maxSize 100000
set_option maxHeartbeats 4000000
namespace Go.Sh
open Go Data
namespace D
end D
end Go.Sh
set_option linter.unusedVariables false
set_option linter.unusedSimpArgs false
set_option synthInstance.maxSize 100000
set_option maxHeartbeats 4000000
namespace Go.Sh
open Go Data
namespace D
end D
end Go.Sh
set_option linter.unusedVariables false
set_option linter.unusedSimpArgs false
set_option synthInstance.maxSize 100000
set_option maxHeartbeats 4000000
namespace Go.Sh
open Go Data
namespace D
end D
end Go.Sh
set_option linter.unusedVariables false
set_option linter.unusedSimpArgs false
set_option synthInstance.maxSize 100000
set_option maxHeartbeats 4000000
namespace Go.Sh
open Go Data
namespace D
end D
end Go.Sh
set_option linter.unusedVariables false
set_option linter.unusedSimpArgs false
set_option synthInstance.maxSize 100000
set_option maxHeartbeats 4000000
namespace Go.Sh
open Go Data
namespace D
def holdersP (l : List Library) (x : Int) : List Int := l.flatMap fun a => if a.2.2.1 = true ∧ x ∈ a.2.1 then [a.1] else []

theorem impl_HoldersOf_is {l : List Library} (h : ok l) (x : Int) : impl_HoldersOf l x = some (holdersP l x) := by
  have hl := h.1
  refine loop_flat l (fun a => if a.2.2.1 = true ∧ x ∈ a.2.1 then [a.1] else []) (fun k hk => ?_) ?_
  · have h0 : (0 : Int) ≤ (k : Int) := by omega
    have h1 : (k : Int) < (l.length : Int) := by omega
    have h3 := (h.at hk).2.1.1
    have h2 := take_flat_len (f := fun a : Library => if a.2.2.1 = true ∧ x ∈ a.2.1 then [a.1] else []) (m := 1) (xs := l) (fun a _ => by split <;> simp) (Nat.le_of_lt hk)
    simp only [ite_if]; simp only [lt_d, len_d, cond_dec, h0, h1, if_true, rd_at l k hk, slices_Contains_int_is (l := (l[k]).2.1) (by omega), bind_some', next_id hk (by omega), cond_if]
    cases hb : (l[k]).2.2.1 with
    | false => simp
    | true =>
      by_cases hx : x ∈ (l[k]).2.1
      · simp only [hx, and_self, if_true]
        rw [if_pos (fitsN (by show (List.flatMap _ (l.take k)).length + 1 ≤ 100000000; omega) (by omega))]; rfl
      · simp [hx]
  · simp only [lt_d, len_d, cond_dec]; rw [if_neg (by omega)]

end D
end Go.Sh
set_option linter.unusedVariables false
set_option linter.unusedSimpArgs false
set_option synthInstance.maxSize 100000
set_option maxHeartbeats 4000000
namespace Go.Sh
open Go Data
end Go.Sh
set_option linter.unusedVariables false
set_option linter.unusedSimpArgs false
set_option synthInstance.maxSize 100000
set_option maxHeartbeats 4000000
namespace Go.Sh
open Go Data
namespace D
end D
end Go.Sh
set_option linter.unusedVariables false
set_option linter.unusedSimpArgs false
set_option synthInstance.maxSize 100000
set_option maxHeartbeats 4000000
namespace Go.Sh
open Go Data
namespace D
end D
end Go.Sh
set_option linter.unusedVariables false
set_option linter.unusedSimpArgs false
set_option synthInstance.maxSize 100000
set_option maxHeartbeats 4000000
namespace Go.Sh
open Go Data
namespace D
end D
end Go.Sh
set_option linter.unusedVariables false
set_option linter.unusedSimpArgs false
set_option synthInstance.maxSize 100000
set_option maxHeartbeats 4000000
namespace Go.Sh
open Go Data
namespace D
end D
end Go.Sh
set_option linter.unusedVariables false
set_option linter.unusedSimpArgs false
set_option synthInstance.maxSize 100000
set_option maxHeartbeats 4000000
namespace Go.Sh
open Go Data
namespace D
end D
end Go.Sh
set_option linter.unusedVariables false
set_option linter.unusedSimpArgs false
set_option synthInstance.maxSize 100000
set_option maxHeartbeats 4000000
namespace Go.Sh
open Go Data
namespace D
end D
end Go.Sh
set_option linter.unusedVariables false
set_option linter.unusedSimpArgs false
set_option synthInstance.maxSize 100000
set_option maxHeartbeats 4000000
namespace Go.Sh
open Go Data
namespace D
end D
end Go.Sh
set_option linter.unusedVariables false
set_option linter.unusedSimpArgs false
set_option synthInstance.maxSize 100000
set_option maxHeartbeats 4000000
namespace Go.Sh
open Go Data
namespace D
end D
end Go.Sh
set_option linter.unusedVariables false
set_option linter.unusedSimpArgs false
set_option synthInstance.maxSize 100000
set_option maxHeartbeats 4000000
namespace Go.Sh
open Go Data
namespace D
end D
end Go.Sh
set_option linter.unusedVariables false
set_option linter.unusedSimpArgs false
set_option synthInstance.maxSize 100000
set_option maxHeartbeats 4000000
namespace Go.Sh
open Go Data
namespace D
end D
end Go.Sh
set_option linter.unusedVariables false
set_option linter.unusedSimpArgs false
set_option synthInstance.maxSize 100000
set_option maxHeartbeats 4000000
namespace Go.Sh
open Go Data
namespace D
end D
end Go.Sh
set_option linter.unusedVariables false
set_option linter.unusedSimpArgs false
set_option synthInstance.maxSize 100000
set_option maxHeartbeats 4000000
namespace Go.Sh
open Go Data
namespace D
end D
end Go.Sh
set_option linter.unusedVariables false
set_option linter.unusedSimpArgs false
set_option synthInstance.maxSize 100000
set_option maxHeartbeats 4000000
namespace Go.Sh
open Go Data
namespace D
end D
end Go.Sh
set_option linter.unusedVariables false
set_option linter.unusedSimpArgs false
set_option synthInstance.maxSize 100000
set_option maxHeartbeats 4000000
namespace Go.Sh
open Go Data
namespace D
end D
end Go.Sh
set_option linter.unusedVariables false
set_option linter.unusedSimpArgs false
set_option synthInstance.maxSize 100000
set_option maxHeartbeats 4000000
namespace Go.Sh
open Go Data
namespace D
end D
end Go.Sh
set_option linter.unusedVariables false
set_option linter.unusedSimpArgs false
set_option synthInstance.maxSize 100000
set_option maxHeartbeats 4000000
namespace Go.Sh
open Go Data
namespace D
end D
end Go.Sh
set_option linter.unusedVariables false
set_option linter.unusedSimpArgs false
set_option synthInstance.maxSize 100000
set_option maxHeartbeats 4000000
namespace Go.Sh
open Go Data
namespace D
end D
end Go.Sh
set_option linter.unusedVariables false
set_option linter.unusedSimpArgs false
set_option synthInstance.maxSize 100000
set_option maxHeartbeats 4000000
namespace Go.Sh
open Go Data
namespace D
end D
end Go.Sh
set_option linter.unusedVariables false
set_option linter.unusedSimpArgs false
set_option maxRecDepth 100000
set_option maxHeartbeats 4000000
namespace Go.Sh
open Go Data
namespace D
end D
end Go.Sh
set_option linter.unusedVariables false
set_option linter.unusedSimpArgs false
set_option synthInstance.maxSize 100000
set_option maxHeartbeats 4000000
namespace Go.Sh
open Go Data
namespace D
end D
end Go.Sh
set_option linter.unusedVariables false
set_option linter.unusedSimpArgs false
set_option synthInstance.maxSize 100000
set_option maxHeartbeats 4000000
namespace Go.Sh
open Go Data
theorem find_if {α R : Type} (p : α → Bool) (a r0 : R) : ∀ (xs : List α), ((xs.findSome? fun x => if p x = true then none else some a).getD r0) = if xs.all p = true then r0 else a
  | [] => rfl
  | x :: xs => by
    rw [List.findSome?_cons, List.all_cons]
    cases h : p x
    · simp
    · simpa using find_if p a r0 xs

namespace D
/-! ## Numbers that ascend -/
theorem compact_asc {zs : List Int} (h : zs.Pairwise fun x y => x ≤ y) : (Lib.compact zs).Pairwise fun x y => x < y := by
  unfold Lib.compact Lib.compactUpTo
  rw [List.pairwise_map, List.pairwise_filter]
  refine List.Pairwise.imp_of_mem ?_ List.pairwise_lt_range
  intro i j hi hj hij h1 h2
  rw [List.mem_range] at hi hj
  unfold Lib.keeps at h2
  simp only [decide_eq_true_eq] at h2
  have e : ∀ k, k < zs.length → zs.toArray[k]! = zs[k]! := fun k hk => by simp
  rw [e i hi, e j hj]
  rw [e j hj, e (j - 1) (by omega)] at h2
  have hs := List.pairwise_iff_getElem.1 h
  have a1 : zs[i]! ≤ zs[j - 1]! := by
    rw [getElem!_pos zs i hi, getElem!_pos zs (j - 1) (by omega)]
    by_cases hh : i = j - 1
    · subst hh; exact Int.le_refl _
    · exact hs i (j - 1) hi (by omega) (by omega)
  have a2 : zs[j - 1]! ≤ zs[j]! := by
    rw [getElem!_pos zs j hj, getElem!_pos zs (j - 1) (by omega)]
    exact hs (j - 1) j (by omega) hj (by omega)
  have a3 : zs[j]! ≠ zs[j - 1]! := h2.resolve_left (by omega)
  omega

theorem uniq_asc (l : List Int) : (N.uniq l).Pairwise fun x y => x < y := by
  unfold N.uniq
  refine compact_asc ?_
  have := List.pairwise_mergeSort (le := fun x y : Int => decide (x ≤ y)) (fun a b c h1 h2 => by simp only [decide_eq_true_eq] at *; omega) (fun a b => by simp only [Bool.or_eq_true, decide_eq_true_eq]; omega) l
  exact this.imp fun h => of_decide_eq_true h

theorem uniq_same {l : List Int} (h : l.Pairwise fun x y => x < y) : N.uniq l = l := by
  unfold N.uniq
  rw [List.mergeSort_of_pairwise (h.imp fun hh => decide_eq_true (Int.le_of_lt hh))]
  refine Lib.compact_all l fun j hj => ?_
  unfold Lib.keeps
  simp only [decide_eq_true_eq]
  by_cases h0 : j = 0
  · exact .inl h0
  · right
    have := List.pairwise_iff_getElem.1 h (j - 1) j (by omega) hj (by omega)
    rw [show l.toArray[j]! = l[j] by simp [hj], show l.toArray[j - 1]! = l[j - 1] by simp [show j - 1 < l.length by omega]]
    omega

def ascP (l : List Int) : Bool := (List.range (l.length - 1)).all fun k => decide (l.getD k 0 < l.getD (k + 1) 0)

theorem ascP_iff (l : List Int) : ascP l = true ↔ l.Pairwise fun x y => x < y := by
  unfold ascP
  rw [List.all_eq_true]
  constructor
  · intro h
    have adj : ∀ k, (hk : k + 1 < l.length) → l[k] < l[k + 1] := fun k hk => by
      have := h k (List.mem_range.2 (by omega))
      simp only [decide_eq_true_eq] at this
      rw [List.getD_eq_getElem?_getD, List.getD_eq_getElem?_getD, List.getElem?_eq_getElem (by omega), List.getElem?_eq_getElem hk] at this
      exact this
    rw [List.pairwise_iff_getElem]
    intro i j hi hj hij
    induction j with
    | zero => omega
    | succ j ih =>
      by_cases hh : i = j
      · subst hh; exact adj i hj
      · have := ih (by omega) (by omega)
        have := adj j hj
        omega
  · intro h k hk
    rw [List.mem_range] at hk
    have := List.pairwise_iff_getElem.1 h k (k + 1) (by omega) (by omega) (by omega)
    simp only [decide_eq_true_eq]
    rw [List.getD_eq_getElem?_getD, List.getD_eq_getElem?_getD, List.getElem?_eq_getElem (by omega), List.getElem?_eq_getElem (by omega)]
    exact this

theorem impl_ascends_is {l : List Int} (h : l.length ≤ 1048576) : impl_ascends l = some (ascP l) := by
  unfold impl_ascends impl_sorted
  have hlen : (N.uniq l).length ≤ l.length := by
    unfold N.uniq
    have := Lib.compact_length_le (l.mergeSort fun x y => decide (x ≤ y))
    rw [List.length_mergeSort] at this
    exact this
  rw [nite_pos (by rw [len_d]; omega), bind_some', slices_Equal_int_is (by omega), bind_some']
  congr 1
  by_cases ha : l.Pairwise fun x y => x < y
  · rw [(ascP_iff l).2 ha, decide_eq_true (uniq_same ha)]
  · have : ascP l = false := by
      cases hc : ascP l with
      | false => rfl
      | true => exact absurd ((ascP_iff l).1 hc) ha
    rw [this, decide_eq_false]
    intro e
    exact ha (e ▸ uniq_asc l)

/-! ## Libraries -/
def idAt (l : List Library) (i : Nat) : Int := (N.rd l (i : Int) (0, [], false, false)).1

def digAt (l : List Library) (i : Nat) : List Int := (N.rd l (i : Int) (0, [], false, false)).2.1

def okAt (l : List Library) (i : Nat) : Bool := decide (0 ≤ idAt l i ∧ idAt l i ≤ 99) && (decide (i = 0) || decide (idAt l (i - 1) < idAt l i)) && ascP (digAt l i)

def befAt (l : List Library) (i : Nat) : Int := if i = 0 then -1 else idAt l (i - 1)

def okI (l : List Library) (i : Nat) : Bool := decide (N.add .i64 (befAt l i) 1 ≤ idAt l i ∧ idAt l i ≤ 99) && ascP (digAt l i)

theorem ok_same (l : List Library) : (List.range l.length).all (okI l) = (List.range l.length).all (okAt l) := by
  rw [Bool.eq_iff_iff, List.all_eq_true, List.all_eq_true]
  have key : ∀ n, (∀ i, i < n → okI l i = true) ↔ (∀ i, i < n → okAt l i = true) := by
    intro n
    induction n with
    | zero => exact ⟨fun _ i h => absurd h (Nat.not_lt_zero _), fun _ i h => absurd h (Nat.not_lt_zero _)⟩
    | succ n ih =>
      have step : (∀ i, i < n → okAt l i = true) → (okI l n = true ↔ okAt l n = true) := by
        intro hp
        unfold okI okAt befAt
        by_cases h0 : n = 0
        · subst h0
          simp only [if_true, Bool.and_eq_true, decide_eq_true_eq, Bool.or_eq_true, true_or, and_true]
          have e : N.add .i64 (-1) 1 = 0 := add_id (by omega) (by omega)
          rw [e]
        · have hq := hp (n - 1) (by omega)
          unfold okAt at hq
          simp only [Bool.and_eq_true, decide_eq_true_eq] at hq
          have e : N.add .i64 (idAt l (n - 1)) 1 = idAt l (n - 1) + 1 := add_id (by omega) (by omega)
          simp only [h0, if_false, Bool.and_eq_true, decide_eq_true_eq, Bool.or_eq_true, false_or, e]
          constructor
          · rintro ⟨⟨a, b⟩, c⟩; exact ⟨⟨⟨by omega, b⟩, by omega⟩, c⟩
          · rintro ⟨⟨⟨a, b⟩, c⟩, d⟩; exact ⟨⟨by omega, b⟩, d⟩
      constructor
      · intro h
        have hp := ih.1 fun i hi => h i (by omega)
        intro i hi
        by_cases hh : i = n
        · subst hh; exact (step hp).1 (h i hi)
        · exact hp i (by omega)
      · intro h
        have hp : ∀ i, i < n → okAt l i = true := fun i hi => h i (by omega)
        intro i hi
        by_cases hh : i = n
        · subst hh; exact (step hp).2 (h i hi)
        · exact ih.2 hp i (by omega)
  have := key l.length
  simpa [List.mem_range] using this

def libsP (l : List Library) : Bool := decide (l.length ≤ 6) && (List.range l.length).all (okAt l)

theorem dig_ok {l : List Library} (h : ok l) {i : Nat} (hi : i < l.length) : (digAt l i).length ≤ 1048576 := by
  unfold digAt
  rw [rd_at l i hi]
  exact (h.at hi).2.1.1

theorem impl_AreLibraries_is {l : List Library} (h : ok l) : impl_AreLibraries l = some (libsP l) := by
  have hl := h.1
  unfold impl_AreLibraries libsP
  rw [gt_d, len_d, cond_dec]
  by_cases h6 : (6 : Int) < (l.length : Int)
  · rw [if_pos h6, decide_eq_false (show ¬ l.length ≤ 6 by omega)]; rfl
  rw [if_neg h6, decide_eq_true (show l.length ≤ 6 by omega), Bool.true_and, ← ok_same]
  refine (loop_find (R := Bool) (S := Int × Int) (List.range l.length) (fun k => (befAt l k, (k : Int))) (fun k => if okI l k = true then none else some false) true (fun k hk => ?_) ?_).trans ?_
  · rw [List.length_range] at hk
    have h0 : (0 : Int) ≤ (k : Int) := by omega
    have h1 : (k : Int) < (l.length : Int) := by omega
    have hd := dig_ok h hk
    rw [List.getElem_range]
    simp only [lt_d, len_d, nite_pos h0, nite_pos h1, impl_InRange_is, bind_some', next_id hk (by omega)]
    rw [decide_eq_true h1, cond_true, impl_ascends_is (l := (N.rd l (k : Int) (0, [], false, false)).2.1) hd, bind_some']
    have hb : befAt l (k + 1) = (N.rd l (k : Int) (0, [], false, false)).1 := rfl
    rw [hb]
    have ho : okI l k = (decide (N.add .i64 (befAt l k) 1 ≤ (N.rd l (k : Int) (0, [], false, false)).1 ∧ (N.rd l (k : Int) (0, [], false, false)).1 ≤ 99) && ascP (N.rd l (k : Int) (0, [], false, false)).2.1) := rfl
    rw [ho]
    cases decide (N.add .i64 (befAt l k) 1 ≤ (N.rd l (k : Int) (0, [], false, false)).1 ∧ (N.rd l (k : Int) (0, [], false, false)).1 ≤ 99) <;> cases ascP (N.rd l (k : Int) (0, [], false, false)).2.1 <;> rfl
  · rw [List.length_range]
    simp only [lt_d, len_d]
    rw [decide_eq_false (Int.lt_irrefl _), cond_false]
  · rw [find_if]
    cases (List.range l.length).all (okI l) <;> rfl

end D
end Go.Sh
set_option linter.unusedVariables false
set_option linter.unusedSimpArgs false
namespace Go.Sh.D
open Go
/-! ## A comparison and the order that it tells; sorting by blocks and by merging in place -/
theorem loop_meas {S R : Type} {step : S → Option (S ⊕ R)} (I : S → Prop) (μ : S → Nat) (Post : R → Prop)
    (h : ∀ s, I s → (∃ s', step s = some (.inl s') ∧ I s' ∧ μ s' < μ s) ∨ ∃ r, step s = some (.inr r) ∧ Post r) : ∀ s, I s → ∃ r, loopF step s = some r ∧ Post r := by
  have key : ∀ (n : Nat) s, I s → μ s < n → ∃ r, loopF step s = some r ∧ Post r := by
    intro n
    induction n with
    | zero => intro s _ h; omega
    | succ n ih =>
      intro s hs hn
      rcases h s hs with ⟨s', e, hi, hm⟩ | ⟨r, e, hr⟩
      · rw [loopF_inl e]; exact ih s' hi (by omega)
      · exact ⟨r, loopF_inr e, hr⟩
  intro s hs
  exact key _ s hs (Nat.lt_succ_self _)

structure Ordr (le lt : Int → Int → Bool) : Prop where
  total : ∀ a b, (le a b || le b a) = true
  trans : ∀ a b c, le a b = true → le b c = true → le a c = true
  anti : ∀ a b, le a b = true → le b a = true → a = b
  agree : ∀ a b, le a b = true → lt b a = false

/-- x stands before y: the comparison tells their order -/
def Qp (le lt : Int → Int → Bool) (x y : Int) : Prop := le x y = true ∨ lt y x = true

theorem Ordr.lt_is {le lt : Int → Int → Bool} (h : Ordr le lt) {x y : Int} (q : Qp le lt x y) : lt y x = !le x y := by
  rcases q with q | q
  · rw [h.agree _ _ q, q]; rfl
  · cases e : le x y with
    | true => rw [h.agree _ _ e] at q; cases q
    | false => rw [q]; rfl

theorem Ordr.rev {le lt : Int → Int → Bool} (h : Ordr le lt) {x y : Int} (e : le x y = false) : le y x = true := by
  have := h.total x y
  rw [e, Bool.false_or] at this
  exact this

theorem Ordr.srt {le lt : Int → Int → Bool} (h : Ordr le lt) {l l' : List Int} (hp : l'.Perm l) (hs : l'.Pairwise fun a b => le a b = true) : l' = l.mergeSort le :=
  List.Perm.eq_of_pairwise (le := fun a b => le a b = true) (fun a b _ _ => h.anti a b) hs (List.pairwise_mergeSort (fun a b c => h.trans a b c) h.total l) (hp.trans (List.mergeSort_perm l le).symm)

theorem Ordr.asc {le lt : Int → Int → Bool} (h : Ordr le lt) (l : List Int) : (l.mergeSort le).Pairwise fun a b => le a b = true :=
  List.pairwise_mergeSort (fun a b c => h.trans a b c) h.total l

theorem Ordr.rep {le lt : Int → Int → Bool} {P U U' S : List Int} (hq : (P ++ U ++ S).Pairwise (Qp le lt)) (hp : U'.Perm U) (hs : U'.Pairwise fun a b => le a b = true) : (P ++ U' ++ S).Pairwise (Qp le lt) := by
  simp only [List.pairwise_append, List.mem_append] at hq ⊢
  obtain ⟨⟨h1, h2, h3⟩, h4, h5⟩ := hq
  exact ⟨⟨h1, hs.imp fun h => .inl h, fun a ha b hb => h3 a ha b (hp.mem_iff.1 hb)⟩, h4, fun a ha b hb => h5 a (ha.imp id hp.mem_iff.1) b hb⟩

/-- two sorted rows cut in two, the parts set across -/
theorem Ordr.cross {le lt : Int → Int → Bool} (h : Ordr le lt) {U1 U2 V1 V2 : List Int} (hU : (U1 ++ U2).Pairwise fun a b => le a b = true) (hV : (V1 ++ V2).Pairwise fun a b => le a b = true)
    (hA : ∀ u ∈ U1, ∀ v ∈ V2, le u v = true) (hB : ∀ u ∈ U2, ∀ v ∈ V1, le v u = true) :
    (U1 ++ V1).mergeSort le ++ (U2 ++ V2).mergeSort le = ((U1 ++ U2) ++ (V1 ++ V2)).mergeSort le := by
  refine h.srt ?_ ?_
  · refine ((List.mergeSort_perm _ le).append (List.mergeSort_perm _ le)).trans ?_
    rw [List.append_assoc, List.append_assoc]
    refine List.Perm.append_left U1 ?_
    rw [← List.append_assoc, ← List.append_assoc]
    exact List.Perm.append_right V2 List.perm_append_comm
  · rw [List.pairwise_append]
    refine ⟨h.asc _, h.asc _, fun a ha b hb => ?_⟩
    rw [(List.mergeSort_perm _ le).mem_iff, List.mem_append] at ha hb
    rw [List.pairwise_append] at hU hV
    rcases ha with ha | ha <;> rcases hb with hb | hb
    · exact hU.2.2 a ha b hb
    · exact hA a ha b hb
    · exact hB b hb a ha
    · exact hV.2.2 a ha b hb

/-- every block of s is sorted -/
def BS (le : Int → Int → Bool) (s : Nat) (l : List Int) : Prop := ∀ k, ((l.drop (k * s)).take s).Pairwise fun a b => le a b = true

theorem BS_head {le : Int → Int → Bool} {s : Nat} {l : List Int} (h : BS le s l) : (l.take s).Pairwise fun a b => le a b = true := by
  have := h 0
  simpa using this
theorem BS_tail {le : Int → Int → Bool} {s : Nat} {l : List Int} (h : BS le s l) : BS le s (l.drop s) := by
  intro k
  have := h (k + 1)
  rw [List.drop_drop]
  rw [Nat.add_mul, Nat.one_mul, Nat.add_comm] at this
  exact this
theorem BS_all {le : Int → Int → Bool} {s : Nat} {l : List Int} (h : BS le s l) (hl : l.length ≤ s) : l.Pairwise fun a b => le a b = true := by
  have := BS_head h
  rwa [List.take_of_length_le hl] at this
theorem BS_nil {le : Int → Int → Bool} {s : Nat} : BS le s [] := fun k => by simp
theorem BS_app {le : Int → Int → Bool} {t q : Nat} {l r : List Int} (h : BS le t l) (hl : l.length = q * t) (hr : r.Pairwise fun a b => le a b = true) (hrl : r.length ≤ t) : BS le t (l ++ r) := by
  intro k
  by_cases hk : k < q
  · have h1 : (k + 1) * t ≤ q * t := Nat.mul_le_mul_right t hk
    rw [Nat.add_mul, Nat.one_mul] at h1
    rw [List.drop_append_of_le_length (by omega), List.take_append_of_le_length (by simp; omega)]
    exact h k
  · by_cases hq : k = q
    · subst hq
      rw [← hl, List.drop_left, List.take_of_length_le hrl]
      exact hr
    · have h1 : (q + 1) * t ≤ k * t := Nat.mul_le_mul_right t (by omega)
      rw [Nat.add_mul, Nat.one_mul] at h1
      rw [List.drop_eq_nil_of_le (by simp; omega)]
      simp

/-! ## Places in a row -/
theorem rd_mid (P S : List Int) (x d : Int) : N.rd (P ++ x :: S) (P.length : Int) d = x := by
  simp [N.rd, List.getD]
theorem set_mid (P S : List Int) (x y : Int) : N.set (P ++ x :: S) (P.length : Int) y = P ++ y :: S := by
  simp [N.set]
theorem rd_mid' {P S : List Int} {x d : Int} {i : Int} (h : i = (P.length : Int)) : N.rd (P ++ x :: S) i d = x := by rw [h]; exact rd_mid P S x d
theorem set_mid' {P S : List Int} {x y : Int} {i : Int} (h : i = (P.length : Int)) : N.set (P ++ x :: S) i y = P ++ y :: S := by rw [h]; exact set_mid P S x y
theorem rd_mid1' {P S : List Int} {x y d : Int} {i : Int} (h : i = (P.length : Int) + 1) : N.rd (P ++ x :: y :: S) i d = y := by
  have := rd_mid (P ++ [x]) S y d
  rw [h]
  simpa using this
theorem set_mid1' {P S : List Int} {x y z : Int} {i : Int} (h : i = (P.length : Int) + 1) : N.set (P ++ x :: y :: S) i z = P ++ x :: z :: S := by
  have := set_mid (P ++ [x]) S y z
  rw [h]
  simpa using this
end Go.Sh.D
set_option linter.unusedVariables false
set_option linter.unusedSimpArgs false
namespace Go.Sh.D
open Go
theorem rd_at2 {A B C : List Int} {x y d : Int} {i : Int} (h : i = (A.length : Int) + 1 + (B.length : Int)) : N.rd (A ++ x :: (B ++ y :: C)) i d = y := by
  have := rd_mid' (P := A ++ x :: B) (S := C) (x := y) (d := d) (i := i) (by simp; omega)
  simpa using this
theorem set_at2 {A B C : List Int} {x y z : Int} {i : Int} (h : i = (A.length : Int) + 1 + (B.length : Int)) : N.set (A ++ x :: (B ++ y :: C)) i z = A ++ x :: (B ++ z :: C) := by
  have := set_mid' (P := A ++ x :: B) (S := C) (x := y) (y := z) (i := i) (by simp; omega)
  simpa using this

theorem swapR_is (P X M Y S : List Int) (c : Int) (hXY : X.length = Y.length) (hb : P.length + X.length + M.length + Y.length < 4611686018427387904) {a b n : Int} (ha : a = (P.length : Int)) (hbb : b = ((P.length + X.length + M.length : Nat) : Int)) (hn : n = (X.length : Int)) :
    slices_swapRangeCmpFunc_int_impl_OrderFor_1 (P ++ (X ++ (M ++ (Y ++ S)))) a b n c = some (P ++ (Y ++ (M ++ (X ++ S)))) := by
  subst ha hbb hn
  unfold slices_swapRangeCmpFunc_int_impl_OrderFor_1
  refine loop_upto X.length (fun (k : Nat) (l : List Int) => ((k : Int), l)) (fun k => P ++ ((Y.take k ++ X.drop k) ++ (M ++ ((X.take k ++ Y.drop k) ++ S)))) _ (fun k hk => ?_) ?_
  · have hX : X.drop k = X[k] :: X.drop (k + 1) := List.drop_eq_getElem_cons hk
    have hY : Y.drop k = Y[k]'(by omega) :: Y.drop (k + 1) := List.drop_eq_getElem_cons (by omega)
    have hX1 : X.take (k + 1) = X.take k ++ [X[k]] := List.take_succ_eq_append_getElem hk
    have hY1 : Y.take (k + 1) = Y.take k ++ [Y[k]'(by omega)] := List.take_succ_eq_append_getElem (by omega)
    generalize X[k] = x at *
    generalize Y[k]'(by omega) = y at *
    have e0 : P ++ ((Y.take k ++ X.drop k) ++ (M ++ ((X.take k ++ Y.drop k) ++ S))) = (P ++ Y.take k) ++ x :: ((X.drop (k + 1) ++ (M ++ X.take k)) ++ y :: (Y.drop (k + 1) ++ S)) := by simp [hX, hY]
    have e1 : P ++ ((Y.take (k + 1) ++ X.drop (k + 1)) ++ (M ++ ((X.take (k + 1) ++ Y.drop (k + 1)) ++ S))) = (P ++ Y.take k) ++ y :: ((X.drop (k + 1) ++ (M ++ X.take k)) ++ x :: (Y.drop (k + 1) ++ S)) := by simp [hX1, hY1]
    have hA : (P ++ Y.take k).length = P.length + k := by simp; omega
    have hB : (X.drop (k + 1) ++ (M ++ X.take k)).length = X.length + M.length - 1 := by simp; omega
    have hl : ((P ++ Y.take k) ++ x :: ((X.drop (k + 1) ++ (M ++ X.take k)) ++ y :: (Y.drop (k + 1) ++ S))).length = P.length + X.length + M.length + Y.length + S.length := by simp; omega
    have hl2 : ((P ++ Y.take k) ++ y :: ((X.drop (k + 1) ++ (M ++ X.take k)) ++ y :: (Y.drop (k + 1) ++ S))).length = P.length + X.length + M.length + Y.length + S.length := by simp; omega
    simp only [e0, e1]
    generalize P ++ Y.take k = A at *
    generalize X.drop (k + 1) ++ (M ++ X.take k) = B at *
    generalize Y.drop (k + 1) ++ S = C at *
    have i1 : N.add .i64 (P.length : Int) (k : Int) = (A.length : Int) := by rw [add_id (by omega) (by omega)]; omega
    have i2 : N.add .i64 ((P.length + X.length + M.length : Nat) : Int) (k : Int) = (A.length : Int) + 1 + (B.length : Int) := by rw [add_id (by omega) (by omega)]; omega
    have i3 : N.add .i64 (k : Int) 1 = ((k + 1 : Nat) : Int) := next_id hk (by omega)
    simp only [lt_d, cond_dec, i1, i2, i3, len_d, hl, N.let_, rd_mid' rfl, rd_at2 rfl, set_mid' rfl, set_at2 rfl, hl2]
    rw [if_pos (by omega), nite_pos (by omega), nite_pos (by omega), nite_pos (by omega), nite_pos (by omega), nite_pos (by omega), nite_pos (by omega), nite_pos (by omega), nite_pos (by omega)]
  · have h1 : Y.take X.length = Y := by rw [hXY]; simp
    have h2 : Y.drop X.length = [] := by rw [hXY]; simp
    simp only [lt_d, cond_dec, h1, h2, List.take_length, List.drop_length, List.append_nil]
    rw [if_neg (by omega)]

theorem rot_is (c : Int) : ∀ (n : Nat) (P X Y S : List Int), X.length + Y.length ≤ n → 0 < X.length → 0 < Y.length → P.length + X.length + Y.length < 4611686018427387904 → ∀ (a m b : Int), m = ((P.length + X.length : Nat) : Int) →
    ∀ step, step = (fun (s1 : Int × Int × List Int) =>
      N.cond (N.ne s1.1 s1.2.1)
        (N.cond (N.gt s1.1 s1.2.1)
            (N.bind (slices_swapRangeCmpFunc_int_impl_OrderFor_1 s1.2.2 (N.sub .i64 m s1.1) m s1.2.1 c) fun r1 =>
                some (.inl (N.sub .i64 s1.1 s1.2.1, s1.2.1, r1)))
            (N.bind (slices_swapRangeCmpFunc_int_impl_OrderFor_1 s1.2.2 (N.sub .i64 m s1.1) (N.sub .i64 (N.add .i64 m s1.2.1) s1.1) s1.1 c) fun r2 =>
                some (.inl (s1.1, N.sub .i64 s1.2.1 s1.1, r2))))
        (Option.map Sum.inr
            (N.bind (slices_swapRangeCmpFunc_int_impl_OrderFor_1 s1.2.2 (N.sub .i64 m s1.1) m s1.1 c) fun r3 =>
                some r3))) →
    loopF step ((X.length : Int), (Y.length : Int), P ++ (X ++ (Y ++ S))) = some (P ++ (Y ++ (X ++ S))) := by
  intro n
  induction n with
  | zero => intro P X Y S h1 h2; omega
  | succ n ih =>
    intro P X Y S hn hx hy hb a m b hm step hs
    have hsub : N.sub .i64 m (X.length : Int) = (P.length : Int) := by rw [sub_id (by omega) (by omega)]; omega
    by_cases he : X.length = Y.length
    · refine loopF_inr ?_
      rw [hs]
      simp only [ne_d, cond_dec, hsub]
      rw [if_neg (by omega)]
      have := swapR_is P X [] Y S c he (by simpa using hb) (a := (P.length : Int)) (b := m) (n := (X.length : Int)) rfl (by simpa using hm) rfl
      simp only [List.nil_append] at this
      rw [this]; rfl
    · by_cases hg : Y.length < X.length
      · -- X = X1 ++ X2, X1 as long as Y
        have h1 : X.take Y.length ++ X.drop Y.length = X := List.take_append_drop _ _
        have l1 : (X.take Y.length).length = Y.length := by simp; omega
        have l2 : (X.drop Y.length).length = X.length - Y.length := by simp
        generalize X.take Y.length = X1 at *
        generalize X.drop Y.length = X2 at *
        subst h1
        simp only [List.length_append] at *
        have hst : step (((X1.length + X2.length : Nat) : Int), (Y.length : Int), P ++ ((X1 ++ X2) ++ (Y ++ S))) = some (.inl ((X2.length : Int), (X1.length : Int), (P ++ Y) ++ (X2 ++ (X1 ++ S)))) := by
          rw [hs]
          simp only [ne_d, gt_d, cond_dec, hsub]
          rw [if_pos (by omega), if_pos (by omega)]
          have := swapR_is P X1 X2 Y S c l1 (by omega) (a := (P.length : Int)) (b := m) (n := (Y.length : Int)) rfl (by omega) (by omega)
          rw [show P ++ ((X1 ++ X2) ++ (Y ++ S)) = P ++ (X1 ++ (X2 ++ (Y ++ S))) by simp, this, bind_some']
          have e1 : N.sub .i64 ((X1.length + X2.length : Nat) : Int) (Y.length : Int) = (X2.length : Int) := by rw [sub_id (by omega) (by omega)]; omega
          rw [e1, ← l1]
          simp
        rw [loopF_inl hst]
        have := ih (P ++ Y) X2 X1 S (by omega) (by omega) (by omega) (by simp; omega) a m b (by simp; omega) step hs
        rw [this]
        simp
      · -- Y = Y1 ++ Y2, Y2 as long as X
        have h1 : Y.take (Y.length - X.length) ++ Y.drop (Y.length - X.length) = Y := List.take_append_drop _ _
        have l1 : (Y.take (Y.length - X.length)).length = Y.length - X.length := by simp
        have l2 : (Y.drop (Y.length - X.length)).length = X.length := by simp; omega
        generalize Y.take (Y.length - X.length) = Y1 at *
        generalize Y.drop (Y.length - X.length) = Y2 at *
        subst h1
        simp only [List.length_append] at *
        have hst : step ((X.length : Int), ((Y1.length + Y2.length : Nat) : Int), P ++ (X ++ ((Y1 ++ Y2) ++ S))) = some (.inl ((Y2.length : Int), (Y1.length : Int), P ++ (Y2 ++ (Y1 ++ (X ++ S))))) := by
          rw [hs]
          simp only [ne_d, gt_d, cond_dec, hsub]
          rw [if_pos (by omega), if_neg (by omega)]
          have e0 : N.add .i64 m ((Y1.length + Y2.length : Nat) : Int) = m + ((Y1.length + Y2.length : Nat) : Int) := add_id (by omega) (by omega)
          have e2 : N.sub .i64 (m + ((Y1.length + Y2.length : Nat) : Int)) (X.length : Int) = ((P.length + X.length + Y1.length : Nat) : Int) := by rw [sub_id (by omega) (by omega)]; omega
          have := swapR_is P X Y1 Y2 S c l2.symm (by omega) (a := (P.length : Int)) (b := ((P.length + X.length + Y1.length : Nat) : Int)) (n := (X.length : Int)) rfl rfl rfl
          rw [e0, e2, show P ++ (X ++ ((Y1 ++ Y2) ++ S)) = P ++ (X ++ (Y1 ++ (Y2 ++ S))) by simp, this, bind_some']
          have e1 : N.sub .i64 ((Y1.length + Y2.length : Nat) : Int) (X.length : Int) = (Y1.length : Int) := by rw [sub_id (by omega) (by omega)]; omega
          rw [e1, ← l2]
        rw [loopF_inl hst]
        have := ih P Y2 Y1 (X ++ S) (by omega) (by omega) (by omega) (by omega) a m b (by omega) step hs
        rw [this]
        simp

theorem rotate_is (P X Y S : List Int) (c : Int) (hx : 0 < X.length) (hy : 0 < Y.length) (hb : P.length + X.length + Y.length < 4611686018427387904) {a m b : Int} (ha : a = (P.length : Int)) (hm : m = ((P.length + X.length : Nat) : Int)) (hbb : b = ((P.length + X.length + Y.length : Nat) : Int)) :
    slices_rotateCmpFunc_int_impl_OrderFor_1 (P ++ (X ++ (Y ++ S))) a m b c = some (P ++ (Y ++ (X ++ S))) := by
  unfold slices_rotateCmpFunc_int_impl_OrderFor_1
  have e1 : N.sub .i64 m a = (X.length : Int) := by rw [sub_id (by omega) (by omega)]; omega
  have e2 : N.sub .i64 b m = (Y.length : Int) := by rw [sub_id (by omega) (by omega)]; omega
  rw [e1, e2]
  exact rot_is c _ P X Y S (Nat.le_refl _) hx hy hb a m b hm _ rfl
end Go.Sh.D
set_option linter.unusedVariables false
set_option linter.unusedSimpArgs false
namespace Go.Sh.D
open Go
/-! ## Ranks -/
def rkP (d x : Int) : Int := hashP [d, x] % 1000000
def leP (d a b : Int) : Bool := decide (rkP d b < rkP d a ∨ rkP d a = rkP d b ∧ a ≤ b)
def ltP (d a b : Int) : Bool := decide (rkP d b < rkP d a)

theorem impl_RankOf_is (d x : Int) : impl_RankOf d x = some (rkP d x) := by
  unfold impl_RankOf
  rw [impl_Hash_is (by simp), bind_some', impl_Mod_is (by omega) (by omega)]; rfl
theorem rk_ord (d : Int) : Ordr (leP d) (ltP d) where
  total a b := by simp only [leP, ← Bool.decide_or, decide_eq_true_eq]; omega
  trans a b c h1 h2 := by simp only [leP, decide_eq_true_eq] at *; omega
  anti a b h1 h2 := by simp only [leP, decide_eq_true_eq] at *; omega
  agree a b h := by simp only [leP, ltP, decide_eq_true_eq, decide_eq_false_iff_not] at *; omega

theorem cmp_is (a b d : Int) : ∃ r, impl_OrderFor_1 a b d = some r ∧ N.lt r 0 = ltP d a b := by
  unfold impl_OrderFor_1 cmp_Compare_int cmp_isNaN_int
  simp only [impl_RankOf_is, bind_some', ne_d, not_true, decide_false, cond_false, lt_d, gt_d, cond_dec]
  by_cases h1 : rkP d b < rkP d a
  · exact ⟨-1, by rw [if_pos h1]; rfl, by simp [ltP, h1]⟩
  · by_cases h2 : rkP d a < rkP d b
    · exact ⟨1, by rw [if_neg h1, if_pos h2]; rfl, by simp [ltP, h1]⟩
    · exact ⟨0, by rw [if_neg h1, if_neg h2]; rfl, by simp [ltP, h1]⟩

/-! ## Setting in -/
theorem ins_inner (c : Int) (x a : Int) (S : List Int) {β : Type} (fin : List Int → Option (((Int × List Int)) ⊕ β)) : ∀ (n : Nat) (P V1 V2 : List Int), V1.length = n → P.length + V1.length + V2.length + 1 < 4611686018427387904 → a = (P.length : Int) →
    ((V1 ++ V2).Pairwise fun p q => leP c p q = true) → (∀ v ∈ V1 ++ V2, Qp (leP c) (ltP c) v x) → (∀ v ∈ V2, leP c x v = true) →
    ∀ (step : Int × List Int → Option ((Int × List Int) ⊕ ((Int × List Int) ⊕ β))) (z : Int), step = (fun (s2 : Int × List Int) =>
              N.cond (N.gt s2.1 a)
                (N.ite (0 ≤ s2.1)
                    (N.ite (s2.1 < N.len s2.2)
                        (N.ite (0 ≤ N.sub .i64 s2.1 1)
                            (N.ite (N.sub .i64 s2.1 1 < N.len s2.2)
                                (N.bind (impl_OrderFor_1 (N.rd s2.2 s2.1 0) (N.rd s2.2 (N.sub .i64 s2.1 1) 0) c) fun r1 =>
                                    N.cond (N.lt r1 0)
                                      (N.ite (0 ≤ N.sub .i64 s2.1 1)
                                          (N.ite (N.sub .i64 s2.1 1 < N.len s2.2)
                                              (N.ite (0 ≤ s2.1)
                                                  (N.ite (s2.1 < N.len s2.2)
                                                      (N.ite (0 ≤ s2.1)
                                                          (N.ite (s2.1 < N.len s2.2)
                                                              (N.let_ (N.set s2.2 s2.1 (N.rd s2.2 (N.sub .i64 s2.1 1) 0)) fun v1 =>
                                                                  N.ite (0 ≤ N.sub .i64 s2.1 1)
                                                                    (N.ite (N.sub .i64 s2.1 1 < N.len v1)
                                                                        (N.let_ (N.set v1 (N.sub .i64 s2.1 1) (N.rd s2.2 s2.1 0)) fun v2 =>
                                                                            some (.inl (N.sub .i64 s2.1 1, v2)))
                                                                        none)
                                                                    none)
                                                              none)
                                                          none)
                                                      none)
                                                  none)
                                              none)
                                          none)
                                      (some (.inr (.inl (z, s2.2)))))
                                none)
                            none)
                        none)
                    none)
                (some (.inr (.inl (z, s2.2))))) →
    loopF step (((P.length + V1.length : Nat) : Int), P ++ (V1 ++ x :: (V2 ++ S))) = some (.inl (z, P ++ ((V1 ++ V2 ++ [x]).mergeSort (leP c) ++ S))) := by
  intro n
  induction n with
  | zero =>
    intro P V1 V2 hn hb ha hs hq h2 step z hst
    obtain rfl : V1 = [] := List.length_eq_zero_iff.1 hn
    refine loopF_inr ?_
    rw [hst]
    simp only [gt_d, cond_dec, List.length_nil, Nat.add_zero]
    rw [if_neg (by omega)]
    have : x :: V2 = ([] ++ V2 ++ [x]).mergeSort (leP c) := (rk_ord c).srt (by simpa using (List.perm_append_comm (l₁ := [x]) (l₂ := V2))) (List.pairwise_cons.2 ⟨h2, by simpa using hs⟩)
    rw [← this]; simp
  | succ n ih =>
    intro P V1 V2 hn hb ha hs hq h2 step z hst
    rcases List.eq_nil_or_concat V1 with rfl | ⟨V0, y, rfl⟩
    · simp at hn
    rw [List.concat_eq_append] at *
    simp only [List.length_append, List.length_cons, List.length_nil] at hn hb ⊢
    have hl : (P ++ (V0 ++ [y] ++ x :: (V2 ++ S))).length = P.length + V0.length + V2.length + S.length + 2 := by simp; omega
    have hj : ((P.length + (V0.length + (0 + 1)) : Nat) : Int) = ((P ++ V0).length : Int) + 1 := by simp; omega
    have e1 : N.sub .i64 (((P ++ V0).length : Int) + 1) 1 = ((P ++ V0).length : Int) := by
      have : (P ++ V0).length = P.length + V0.length := by simp
      rw [sub_id (by omega) (by omega)]; omega
    have e0 : P ++ (V0 ++ [y] ++ x :: (V2 ++ S)) = (P ++ V0) ++ y :: x :: (V2 ++ S) := by simp
    have hPV : (P ++ V0).length = P.length + V0.length := by simp
    rw [e0] at hl
    obtain ⟨r, hr, hr2⟩ := cmp_is x y c
    have hqy : Qp (leP c) (ltP c) y x := hq y (by simp)
    have hcmp : N.lt r 0 = !leP c y x := hr2.trans ((rk_ord c).lt_is hqy)
    by_cases hy : leP c y x = true
    · -- x stands where it belongs
      refine loopF_inr ?_
      rw [hst, hj, e0]
      simp only [gt_d, cond_dec, e1, len_d, hl, rd_mid' rfl, rd_mid1' rfl, hr, bind_some', hcmp, hy, Bool.not_true, cond_false]
      rw [if_pos (by omega), nite_pos (by omega), nite_pos (by omega), nite_pos (by omega), nite_pos (by omega)]
      have hsort : (V0 ++ [y]) ++ x :: V2 = (V0 ++ [y] ++ V2 ++ [x]).mergeSort (leP c) := by
        refine (rk_ord c).srt ?_ ?_
        · rw [List.append_assoc (V0 ++ [y]) V2 [x]]
          exact List.Perm.append_left _ (List.perm_append_comm (l₁ := [x]) (l₂ := V2))
        · rw [List.pairwise_append] at hs ⊢
          refine ⟨hs.1, List.pairwise_cons.2 ⟨h2, hs.2.1⟩, fun p hp q hq' => ?_⟩
          rcases List.mem_cons.1 hq' with rfl | hq'
          · rcases List.mem_append.1 hp with hp | hp
            · have := (List.pairwise_append.1 hs.1).2.2 p hp y (by simp)
              exact (rk_ord c).trans _ _ _ this hy
            · obtain rfl : p = y := by simpa using hp
              exact hy
          · exact hs.2.2 p hp q hq'
      rw [← hsort]; simp
    · have hy : leP c y x = false := by simpa using hy
      have hxy : leP c x y = true := (rk_ord c).rev hy
      have hstep : step (((P.length + (V0.length + (0 + 1)) : Nat) : Int), P ++ (V0 ++ [y] ++ x :: (V2 ++ S))) = some (.inl (((P.length + V0.length : Nat) : Int), P ++ (V0 ++ x :: ((y :: V2) ++ S)))) := by
        rw [hst, hj, e0]
        have hl2 : ((P ++ V0) ++ y :: y :: (V2 ++ S)).length = P.length + V0.length + V2.length + S.length + 2 := by simp; omega
        simp only [gt_d, cond_dec, e1, len_d, hl, rd_mid' rfl, rd_mid1' rfl, hr, bind_some', hcmp, hy, Bool.not_false, cond_true, N.let_, set_mid1' rfl, set_mid' rfl, hl2]
        rw [if_pos (by omega)]
        repeat rw [nite_pos (by omega)]
        simp
      rw [loopF_inl hstep]
      have := ih P V0 (y :: V2) (by omega) (by simp; omega) ha (by simpa using hs) (fun v hv => hq v (by simpa using hv)) (fun v hv => by
        rcases List.mem_cons.1 hv with rfl | hv
        · exact hxy
        · exact h2 v hv) step z hst
      rw [this]
      simp

theorem insertion_is (c : Int) (P U S : List Int) (hq : U.Pairwise (Qp (leP c) (ltP c))) (hb : P.length + U.length + 1 < 4611686018427387904) {a b : Int} (ha : a = (P.length : Int)) (hbb : b = ((P.length + U.length : Nat) : Int)) :
    slices_insertionSortCmpFunc_int_impl_OrderFor_1 (P ++ (U ++ S)) a b c = some (P ++ (U.mergeSort (leP c) ++ S)) := by
  unfold slices_insertionSortCmpFunc_int_impl_OrderFor_1
  have e1 : N.add .i64 a 1 = ((P.length + 1 : Nat) : Int) := by rw [add_id (by omega) (by omega)]; omega
  rw [e1]
  cases hU : U with
  | nil =>
    subst hU
    refine loopF_inr ?_
    simp only [lt_d, cond_dec]
    rw [if_neg (by simp at hbb; omega)]; simp
  | cons u0 U0 =>
    rw [← hU]
    have hpos : 0 < U.length := by rw [hU]; simp
    have e0 : P ++ (U ++ S) = P ++ ((U.take (0 + 1)).mergeSort (leP c) ++ (U.drop (0 + 1) ++ S)) := by rw [hU]; simp
    rw [e0]
    refine (loop_upto (U.length - 1) (fun (k : Nat) (l : List Int) => (((P.length + 1 + k : Nat) : Int), l)) (fun k => P ++ ((U.take (k + 1)).mergeSort (leP c) ++ (U.drop (k + 1) ++ S))) (P ++ (U.mergeSort (leP c) ++ S)) (fun k hk => ?_) ?_ :)
    · have hk' : k + 1 < U.length := by omega
      have hd : U.drop (k + 1) = U[k + 1] :: U.drop (k + 1 + 1) := List.drop_eq_getElem_cons hk'
      have ht : U.take (k + 1 + 1) = U.take (k + 1) ++ [U[k + 1]] := List.take_succ_eq_append_getElem hk'
      have hqx : ∀ v ∈ (U.take (k + 1)).mergeSort (leP c), Qp (leP c) (ltP c) v U[k + 1] := fun v hv => by
        rw [(List.mergeSort_perm _ _).mem_iff] at hv
        have h1 : (U.take (k + 1 + 1)).Pairwise (Qp (leP c) (ltP c)) := hq.sublist (List.take_sublist _ _)
        rw [ht, List.pairwise_append] at h1
        exact h1.2.2 v hv _ (by simp)
      have hlen : ((U.take (k + 1)).mergeSort (leP c)).length = k + 1 := by rw [List.length_mergeSort]; simp; omega
      have e2 : N.add .i64 ((P.length + 1 + k : Nat) : Int) 1 = ((P.length + 1 + (k + 1) : Nat) : Int) := by rw [add_id (by omega) (by omega)]; omega
      have hlt : N.lt ((P.length + 1 + k : Nat) : Int) b = true := by rw [lt_d]; exact decide_eq_true (by omega)
      simp only [hlt, cond_true, e2]
      have := ins_inner c U[k + 1] a (U.drop (k + 1 + 1) ++ S) (β := List Int) (fun _ => none) _ P ((U.take (k + 1)).mergeSort (leP c)) [] rfl (by rw [hlen]; simp; omega) ha (by rw [List.append_nil]; exact (rk_ord c).asc _) (fun v hv => hqx v (by simpa using hv)) (fun v hv => by cases hv) _ ((P.length + 1 + (k + 1) : Nat) : Int) rfl
      rw [hlen] at this
      rw [show P.length + 1 + k = P.length + (k + 1) by omega, hd]
      simp only [List.nil_append, List.append_nil] at this
      refine Eq.trans this ?_
      rw [ht]
      have hs : ((U.take (k + 1)).mergeSort (leP c) ++ [U[k + 1]]).mergeSort (leP c) = (U.take (k + 1) ++ [U[k + 1]]).mergeSort (leP c) :=
        (rk_ord c).srt ((List.mergeSort_perm _ _).trans ((List.mergeSort_perm _ _).append_right _)) ((rk_ord c).asc _)
      rw [hs]
    · simp only [lt_d, cond_dec]
      rw [if_neg (by omega)]
      have : U.length - 1 + 1 = U.length := by omega
      rw [this]; simp
end Go.Sh.D
set_option linter.unusedVariables false
set_option linter.unusedSimpArgs false
namespace Go.Sh.D
open Go
/-! ## Merging in place -/
theorem half_is (i j : Nat) (h : i + j < 4611686018427387904) : N.conv .i64 (N.shr .u64 (N.conv .u64 (N.add .i64 (i : Int) (j : Int))) 1) = (((i + j) / 2 : Nat) : Int) := by
  have e1 : N.add .i64 (i : Int) (j : Int) = ((i + j : Nat) : Int) := by rw [add_id (by omega) (by omega)]; omega
  have e2 : N.conv .u64 ((i + j : Nat) : Int) = ((i + j : Nat) : Int) := by
    unfold N.conv IntKind.wrap
    have f1 : ((2 : Int) ^ IntKind.u64.bits) = 18446744073709551616 := by decide
    have f3 : IntKind.u64.signed = false := rfl
    rw [f1, f3]
    simp only [Bool.false_and, Bool.false_eq_true, if_false, decide_eq_true_eq]
    omega
  have e3 : N.shr .u64 ((i + j : Nat) : Int) 1 = (((i + j) / 2 : Nat) : Int) := by
    have : Nat.min (Int.toNat 1) IntKind.u64.bits = 1 := by decide
    unfold N.shr
    rw [this, Int.fdiv_eq_ediv_of_nonneg _ (by decide)]
    omega
  rw [e1, e2, e3]
  exact wrap_id (by omega) (by omega)

theorem bsearch {R : Type} (step : Int × Int → Option ((Int × Int) ⊕ R)) (p : Nat → Bool) (out : Nat → Option R) (lo hi : Nat) (hlh : lo ≤ hi)
    (hstep : ∀ i j : Nat, lo ≤ i → i < j → j ≤ hi → step ((i : Int), (j : Int)) = if p ((i + j) / 2) = true then some (.inl ((((i + j) / 2 + 1 : Nat) : Int), (j : Int))) else some (.inl ((i : Int), (((i + j) / 2 : Nat) : Int))))
    (hend : ∀ i : Nat, lo ≤ i → i ≤ hi → step ((i : Int), (i : Int)) = (out i).map .inr) :
    ∃ i : Nat, lo ≤ i ∧ i ≤ hi ∧ (i = lo ∨ p (i - 1) = true) ∧ (i = hi ∨ p i = false) ∧ loopF step ((lo : Int), (hi : Int)) = out i := by
  have key : ∀ (n i j : Nat), j - i ≤ n → lo ≤ i → i ≤ j → j ≤ hi → (i = lo ∨ p (i - 1) = true) → (j = hi ∨ p j = false) →
      ∃ k : Nat, lo ≤ k ∧ k ≤ hi ∧ (k = lo ∨ p (k - 1) = true) ∧ (k = hi ∨ p k = false) ∧ loopF step ((i : Int), (j : Int)) = out k := by
    intro n
    induction n with
    | zero =>
      intro i j hn h1 h2 h3 h4 h5
      obtain rfl : i = j := by omega
      refine ⟨i, h1, h3, h4, h5, ?_⟩
      rw [loopF_eq, hend i h1 h3]
      cases out i <;> rfl
    | succ n ih =>
      intro i j hn h1 h2 h3 h4 h5
      by_cases hij : i = j
      · subst hij
        refine ⟨i, h1, h3, h4, h5, ?_⟩
        rw [loopF_eq, hend i h1 h3]
        cases out i <;> rfl
      · have hs := hstep i j h1 (by omega) h3
        by_cases hp : p ((i + j) / 2) = true
        · rw [if_pos hp] at hs
          rw [loopF_inl hs]
          exact ih _ _ (by omega) (by omega) (by omega) h3 (.inr (by simpa using hp)) h5
        · rw [if_neg hp] at hs
          rw [loopF_inl hs]
          exact ih _ _ (by omega) h1 (by omega) (by omega) h4 (.inr (by simpa using hp))
  exact key _ lo hi (Nat.le_refl _) (Nat.le_refl _) hlh (Nat.le_refl _) (.inl rfl) (.inl rfl)

/-- the first moves behind those that are less -/
theorem moveR_is (P V1 T : List Int) (u : Int) {a e : Int} (ha : a = (P.length : Int)) (he : N.sub .i64 e 1 = ((P.length + V1.length : Nat) : Int)) (hb : P.length + V1.length < 4611686018427387904) :
    loopF (fun (s2 : Int × List Int) =>
                        N.cond (N.lt s2.1 (N.sub .i64 e 1))
                          (N.ite (0 ≤ N.add .i64 s2.1 1)
                              (N.ite (N.add .i64 s2.1 1 < N.len s2.2)
                                  (N.ite (0 ≤ s2.1)
                                      (N.ite (s2.1 < N.len s2.2)
                                          (N.ite (0 ≤ s2.1)
                                              (N.ite (s2.1 < N.len s2.2)
                                                  (N.let_ (N.set s2.2 s2.1 (N.rd s2.2 (N.add .i64 s2.1 1) 0)) fun v1 =>
                                                      N.ite (0 ≤ N.add .i64 s2.1 1)
                                                        (N.ite (N.add .i64 s2.1 1 < N.len v1)
                                                            (N.let_ (N.set v1 (N.add .i64 s2.1 1) (N.rd s2.2 s2.1 0)) fun v2 =>
                                                                some (.inl (N.add .i64 s2.1 1, v2)))
                                                            none)
                                                        none)
                                                  none)
                                              none)
                                          none)
                                      none)
                                  none)
                              none)
                          (some (.inr s2.2)))
                      (a, P ++ (u :: (V1 ++ T))) = some (P ++ (V1 ++ (u :: T))) := by
  subst ha
  refine loop_upto V1.length (fun (k : Nat) (l : List Int) => (((P.length + k : Nat) : Int), l)) (fun k => P ++ (V1.take k ++ (u :: (V1.drop k ++ T)))) _ (fun k hk => ?_) ?_
  · have hd : V1.drop k = V1[k] :: V1.drop (k + 1) := List.drop_eq_getElem_cons hk
    have ht : V1.take (k + 1) = V1.take k ++ [V1[k]] := List.take_succ_eq_append_getElem hk
    generalize V1[k] = y at *
    have hA : (P ++ V1.take k).length = P.length + k := by simp; omega
    have e0 : P ++ (V1.take k ++ (u :: (V1.drop k ++ T))) = (P ++ V1.take k) ++ u :: y :: (V1.drop (k + 1) ++ T) := by simp [hd]
    have e1 : P ++ (V1.take (k + 1) ++ (u :: (V1.drop (k + 1) ++ T))) = (P ++ V1.take k) ++ y :: u :: (V1.drop (k + 1) ++ T) := by simp [ht]
    have e2 : N.add .i64 ((P ++ V1.take k).length : Int) 1 = ((P ++ V1.take k).length : Int) + 1 := add_id (by omega) (by omega)
    have hlt : N.lt ((P ++ V1.take k).length : Int) (N.sub .i64 e 1) = true := by rw [he, lt_d]; exact decide_eq_true (by omega)
    have hl : ∀ x z : Int, ((P ++ V1.take k) ++ x :: z :: (V1.drop (k + 1) ++ T)).length = P.length + k + 2 + (V1.length - (k + 1)) + T.length := fun x z => by simp; omega
    simp only [e0, e1]
    rw [← hA]
    simp only [hlt, cond_true, e2, len_d, hl, N.let_, rd_mid' rfl, rd_mid1' rfl, set_mid' rfl, set_mid1' rfl]
    repeat rw [nite_pos (by omega)]
    rw [hA, show ((P.length + k : Nat) : Int) + 1 = ((P.length + (k + 1) : Nat) : Int) by omega]
  · have hlt : N.lt ((P.length + V1.length : Nat) : Int) (N.sub .i64 e 1) = false := by rw [he, lt_d]; exact decide_eq_false (by omega)
    simp only [hlt, cond_false]
    simp

theorem moveL_is (P U2 T : List Int) (v : Int) {e m : Int} (he : e = (P.length : Int)) (hm : m = ((P.length + U2.length : Nat) : Int)) (hb : P.length + U2.length < 4611686018427387904) :
    loopF (fun (s4 : Int × List Int) =>
                            N.cond (N.gt s4.1 e)
                              (N.ite (0 ≤ N.sub .i64 s4.1 1)
                                  (N.ite (N.sub .i64 s4.1 1 < N.len s4.2)
                                      (N.ite (0 ≤ s4.1)
                                          (N.ite (s4.1 < N.len s4.2)
                                              (N.ite (0 ≤ s4.1)
                                                  (N.ite (s4.1 < N.len s4.2)
                                                      (N.let_ (N.set s4.2 s4.1 (N.rd s4.2 (N.sub .i64 s4.1 1) 0)) fun v3 =>
                                                          N.ite (0 ≤ N.sub .i64 s4.1 1)
                                                            (N.ite (N.sub .i64 s4.1 1 < N.len v3)
                                                                (N.let_ (N.set v3 (N.sub .i64 s4.1 1) (N.rd s4.2 s4.1 0)) fun v4 =>
                                                                    some (.inl (N.sub .i64 s4.1 1, v4)))
                                                                none)
                                                            none)
                                                      none)
                                                  none)
                                              none)
                                          none)
                                      none)
                                  none)
                              (some (.inr s4.2)))
                          (m, P ++ (U2 ++ (v :: T))) = some (P ++ (v :: (U2 ++ T))) := by
  subst he hm
  have e00 : P ++ (U2 ++ (v :: T)) = P ++ (U2.take (U2.length - 0) ++ (v :: (U2.drop (U2.length - 0) ++ T))) := by simp
  rw [e00]
  refine (loop_upto U2.length (fun (k : Nat) (l : List Int) => (((P.length + (U2.length - k) : Nat) : Int), l)) (fun k => P ++ (U2.take (U2.length - k) ++ (v :: (U2.drop (U2.length - k) ++ T)))) (P ++ (v :: (U2 ++ T))) (fun k hk => ?_) ?_ :)
  · obtain ⟨q, hq⟩ : ∃ q, U2.length - k = q + 1 := ⟨U2.length - k - 1, by omega⟩
    have hq2 : U2.length - (k + 1) = q := by omega
    have hq3 : q < U2.length := by omega
    rw [hq, hq2]
    have hd : U2.drop q = U2[q] :: U2.drop (q + 1) := List.drop_eq_getElem_cons hq3
    have ht : U2.take (q + 1) = U2.take q ++ [U2[q]] := List.take_succ_eq_append_getElem hq3
    generalize U2[q] = y at *
    have hA : (P ++ U2.take q).length = P.length + q := by simp; omega
    have e0 : P ++ (U2.take (q + 1) ++ (v :: (U2.drop (q + 1) ++ T))) = (P ++ U2.take q) ++ y :: v :: (U2.drop (q + 1) ++ T) := by simp [ht]
    have e1 : P ++ (U2.take q ++ (v :: (U2.drop q ++ T))) = (P ++ U2.take q) ++ v :: y :: (U2.drop (q + 1) ++ T) := by simp [hd]
    have ei : ((P.length + (q + 1) : Nat) : Int) = ((P ++ U2.take q).length : Int) + 1 := by omega
    have e2 : N.sub .i64 (((P ++ U2.take q).length : Int) + 1) 1 = ((P ++ U2.take q).length : Int) := by rw [sub_id (by omega) (by omega)]; omega
    have hgt : N.gt (((P ++ U2.take q).length : Int) + 1) (P.length : Int) = true := by rw [gt_d]; exact decide_eq_true (by omega)
    have hl : ∀ x z : Int, ((P ++ U2.take q) ++ x :: z :: (U2.drop (q + 1) ++ T)).length = P.length + q + 2 + (U2.length - (q + 1)) + T.length := fun x z => by simp; omega
    simp only [e0, e1, ei]
    simp only [hgt, cond_true, e2, len_d, hl, N.let_, rd_mid' rfl, rd_mid1' rfl, set_mid' rfl, set_mid1' rfl]
    repeat rw [nite_pos (by omega)]
    rw [hA]
  · have hgt : N.gt ((P.length + (U2.length - U2.length) : Nat) : Int) (P.length : Int) = false := by rw [gt_d]; exact decide_eq_false (by omega)
    simp only [hgt, cond_false]
    simp
end Go.Sh.D
set_option linter.unusedVariables false
set_option linter.unusedSimpArgs false
namespace Go.Sh.D
open Go
theorem rdL (P U T : List Int) (i : Nat) (hi : i < U.length) : N.rd (P ++ (U ++ T)) ((P.length + i : Nat) : Int) 0 = U[i] := by
  rw [rd_at _ _ (by simp; omega)]
  rw [List.getElem_append_right (by omega), List.getElem_append_left (by omega)]
  congr 1; omega
theorem rdL2 (P U V T : List Int) (i : Nat) (hi : i < V.length) : N.rd (P ++ (U ++ (V ++ T))) ((P.length + U.length + i : Nat) : Int) 0 = V[i] := by
  have := rdL (P ++ U) V T i hi
  simpa using this

def sm2 (f : List Int → Int → Int → Int → Option (List Int)) (mid e b : Int) (r : List Int) : Option (List Int) :=
  N.cond (N.lt mid e) (N.cond (N.lt e b) (N.bind (f r mid e b) fun r => some r) (some r)) (some r)
def sm1 (f : List Int → Int → Int → Int → Option (List Int)) (a s mid e b : Int) (r : List Int) : Option (List Int) :=
  N.cond (N.lt a s) (N.cond (N.lt s mid) (N.bind (f r a s mid) fun r => sm2 f mid e b r) (sm2 f mid e b r)) (sm2 f mid e b r)
def smT (rot f : List Int → Int → Int → Int → Option (List Int)) (a m b mid : Int) (x : List Int) (s : Int) : Option (List Int) :=
  N.cond (N.lt s m) (N.cond (N.lt m (N.sub .i64 (N.add .i64 mid m) s)) (N.bind (rot x s m (N.sub .i64 (N.add .i64 mid m) s)) fun r => sm1 f a s mid (N.sub .i64 (N.add .i64 mid m) s) b r) (sm1 f a s mid (N.sub .i64 (N.add .i64 mid m) s) b x)) (sm1 f a s mid (N.sub .i64 (N.add .i64 mid m) s) b x)

/-- what a merge of two sorted rows that lie side by side is to do -/
def Merges (c : Int) (f : List Int → Int → Int → Int → Option (List Int)) (n : Nat) : Prop :=
  ∀ (P U V S : List Int), 0 < U.length → 0 < V.length → U.length + V.length ≤ n → P.length + U.length + V.length < 1152921504606846976 →
    (U.Pairwise fun p q => leP c p q = true) → (V.Pairwise fun p q => leP c p q = true) → (∀ u ∈ U, ∀ v ∈ V, Qp (leP c) (ltP c) u v) →
    ∀ a m b : Int, a = (P.length : Int) → m = ((P.length + U.length : Nat) : Int) → b = ((P.length + U.length + V.length : Nat) : Int) →
    f (P ++ (U ++ (V ++ S))) a m b = some (P ++ ((U ++ V).mergeSort (leP c) ++ S))

theorem part_is {c : Int} {f : List Int → Int → Int → Int → Option (List Int)} {n : Nat} (hf : Merges c f n) {R : Type} (K : List Int → Option R) (P U V S : List Int) (hn : U.length + V.length ≤ n) (hb : P.length + U.length + V.length < 1152921504606846976)
    (hU : U.Pairwise fun p q => leP c p q = true) (hV : V.Pairwise fun p q => leP c p q = true) (hQ : ∀ u ∈ U, ∀ v ∈ V, Qp (leP c) (ltP c) u v)
    {a m b : Int} (ha : a = (P.length : Int)) (hm : m = ((P.length + U.length : Nat) : Int)) (hbb : b = ((P.length + U.length + V.length : Nat) : Int)) :
    N.cond (N.lt a m) (N.cond (N.lt m b) (N.bind (f (P ++ (U ++ (V ++ S))) a m b) K) (K (P ++ (U ++ (V ++ S))))) (K (P ++ (U ++ (V ++ S)))) = K (P ++ ((U ++ V).mergeSort (leP c) ++ S)) := by
  by_cases h1 : 0 < U.length
  · have e1 : N.lt a m = true := by rw [lt_d]; exact decide_eq_true (by omega)
    rw [e1, cond_true]
    by_cases h2 : 0 < V.length
    · have e2 : N.lt m b = true := by rw [lt_d]; exact decide_eq_true (by omega)
      rw [e2, cond_true, hf P U V S h1 h2 hn hb hU hV hQ a m b ha hm hbb, bind_some']
    · obtain rfl : V = [] := List.length_eq_zero_iff.1 (by omega)
      have e2 : N.lt m b = false := by rw [lt_d]; exact decide_eq_false (by simp at hbb; omega)
      rw [e2, cond_false, List.append_nil, List.mergeSort_of_pairwise hU]; simp
  · obtain rfl : U = [] := List.length_eq_zero_iff.1 (by omega)
    have e1 : N.lt a m = false := by rw [lt_d]; exact decide_eq_false (by simp at hm; omega)
    rw [e1, cond_false, List.nil_append, List.mergeSort_of_pairwise (by simpa using hV)]; simp

theorem tail_is {c : Int} {f rot : List Int → Int → Int → Int → Option (List Int)} {n : Nat} (hf : Merges c f n)
    (hrot : ∀ (P X Y S : List Int), 0 < X.length → 0 < Y.length → P.length + X.length + Y.length < 4611686018427387904 → ∀ a m b : Int, a = (P.length : Int) → m = ((P.length + X.length : Nat) : Int) → b = ((P.length + X.length + Y.length : Nat) : Int) → rot (P ++ (X ++ (Y ++ S))) a m b = some (P ++ (Y ++ (X ++ S))))
    (P U1 U2 V1 V2 S : List Int) (hb : P.length + (U1.length + U2.length) + (V1.length + V2.length) < 1152921504606846976) (hn1 : U1.length + V1.length ≤ n) (hn2 : U2.length + V2.length ≤ n)
    (hU : (U1 ++ U2).Pairwise fun p q => leP c p q = true) (hV : (V1 ++ V2).Pairwise fun p q => leP c p q = true) (hQ : ∀ u ∈ U1 ++ U2, ∀ v ∈ V1 ++ V2, Qp (leP c) (ltP c) u v)
    (hA : ∀ u ∈ U1, ∀ v ∈ V2, leP c u v = true) (hB : ∀ u ∈ U2, ∀ v ∈ V1, leP c v u = true)
    {a m b mid s : Int} (ha : a = (P.length : Int)) (hm : m = ((P.length + (U1.length + U2.length) : Nat) : Int)) (hbb : b = ((P.length + (U1.length + U2.length) + (V1.length + V2.length) : Nat) : Int)) (hs : s = ((P.length + U1.length : Nat) : Int)) (hmid : mid = ((P.length + U1.length + V1.length : Nat) : Int)) :
    smT rot f a m b mid (P ++ ((U1 ++ U2) ++ ((V1 ++ V2) ++ S))) s = some (P ++ (((U1 ++ U2) ++ (V1 ++ V2)).mergeSort (leP c) ++ S)) := by
  have he : N.sub .i64 (N.add .i64 mid m) s = ((P.length + (U1.length + U2.length) + V1.length : Nat) : Int) := by rw [add_id (by omega) (by omega), sub_id (by omega) (by omega)]; omega
  unfold smT
  rw [he]
  generalize hE : ((P.length + (U1.length + U2.length) + V1.length : Nat) : Int) = e
  have hpu := List.pairwise_append.1 hU
  have hpv := List.pairwise_append.1 hV
  -- the parts set across
  have h1 : N.cond (N.lt s m) (N.cond (N.lt m e) (N.bind (rot (P ++ ((U1 ++ U2) ++ ((V1 ++ V2) ++ S))) s m e) fun r => sm1 f a s mid e b r) (sm1 f a s mid e b (P ++ ((U1 ++ U2) ++ ((V1 ++ V2) ++ S))))) (sm1 f a s mid e b (P ++ ((U1 ++ U2) ++ ((V1 ++ V2) ++ S)))) = sm1 f a s mid e b (P ++ (U1 ++ (V1 ++ (U2 ++ (V2 ++ S))))) := by
    by_cases q1 : 0 < U2.length
    · have e1 : N.lt s m = true := by rw [lt_d]; exact decide_eq_true (by omega)
      rw [e1, cond_true]
      by_cases q2 : 0 < V1.length
      · have e2 : N.lt m e = true := by rw [lt_d]; exact decide_eq_true (by omega)
        have := hrot (P ++ U1) U2 V1 (V2 ++ S) q1 q2 (by simp; omega) s m e (by simp; omega) (by simp; omega) (by simp; omega)
        rw [e2, cond_true, show P ++ ((U1 ++ U2) ++ ((V1 ++ V2) ++ S)) = (P ++ U1) ++ (U2 ++ (V1 ++ (V2 ++ S))) by simp, this, bind_some']; simp
      · obtain rfl : V1 = [] := List.length_eq_zero_iff.1 (by omega)
        have e2 : N.lt m e = false := by rw [lt_d]; exact decide_eq_false (by simp at hE; omega)
        rw [e2, cond_false]; simp
    · obtain rfl : U2 = [] := List.length_eq_zero_iff.1 (by omega)
      have e1 : N.lt s m = false := by rw [lt_d]; exact decide_eq_false (by simp at hm; omega)
      rw [e1, cond_false]; simp
  rw [h1]
  unfold sm1
  rw [part_is hf (fun r => sm2 f mid e b r) P U1 V1 (U2 ++ (V2 ++ S)) hn1 (by omega) hpu.1 hpv.1 (fun u hu v hv => hQ u (List.mem_append_left _ hu) v (List.mem_append_left _ hv)) ha hs hmid]
  have hl : ((U1 ++ V1).mergeSort (leP c)).length = U1.length + V1.length := by rw [List.length_mergeSort]; simp
  have := part_is hf (fun r => some r) (P ++ (U1 ++ V1).mergeSort (leP c)) U2 V2 S hn2 (by simp only [List.length_append, hl]; omega) hpu.2.1 hpv.2.1 (fun u hu v hv => hQ u (List.mem_append_right _ hu) v (List.mem_append_right _ hv)) (a := mid) (m := e) (b := b) (by simp only [List.length_append, hl]; omega) (by simp only [List.length_append, hl]; omega) (by simp only [List.length_append, hl]; omega)
  unfold sm2
  rw [show P ++ ((U1 ++ V1).mergeSort (leP c) ++ (U2 ++ (V2 ++ S))) = (P ++ (U1 ++ V1).mergeSort (leP c)) ++ (U2 ++ (V2 ++ S)) by simp]
  refine this.trans ?_
  rw [← (rk_ord c).cross hU hV hA hB]; simp
end Go.Sh.D
set_option linter.unusedVariables false
set_option linter.unusedSimpArgs false
namespace Go.Sh.D
open Go
theorem sm_case1 (c : Int) (P V S : List Int) (u : Int) (hb : P.length + 1 + V.length < 1152921504606846976)
    (hV : V.Pairwise fun p q => leP c p q = true) (hQ : ∀ v ∈ V, Qp (leP c) (ltP c) u v) (k : Nat) (hk : k ≤ V.length) (h1 : k = 0 ∨ ∃ h : k - 1 < V.length, ltP c V[k - 1] u = true) (h2 : k = V.length ∨ ∃ h : k < V.length, ltP c V[k] u = false) :
    V.take k ++ (u :: V.drop k) = ([u] ++ V).mergeSort (leP c) := by
  refine (rk_ord c).srt ?_ ?_
  · refine List.Perm.trans List.perm_middle ?_
    rw [List.take_append_drop]; exact List.Perm.refl _
  · have hpair := hV
    rw [← List.take_append_drop k V, List.pairwise_append] at hpair
    rw [List.pairwise_append]
    have hlow : ∀ v ∈ V.take k, leP c v u = true := fun v hv => by
      rcases h1 with rfl | ⟨h, hl⟩
      · simp at hv
      · obtain ⟨i, hi, rfl⟩ := List.getElem_of_mem hv
        have hi' : i < k := by simp at hi; omega
        rw [List.getElem_take]
        have hmax : leP c V[i] V[k - 1] = true := by
          by_cases hik : i = k - 1
          · subst hik
            have := (rk_ord c).total V[k - 1] V[k - 1]
            simpa using this
          · exact List.pairwise_iff_getElem.1 hV i (k - 1) (by omega) h (by omega)
        have hq := hQ V[k - 1] (List.getElem_mem _)
        have : leP c u V[k - 1] = false := by
          have := (rk_ord c).lt_is hq
          rw [hl] at this
          simpa using this.symm
        exact (rk_ord c).trans _ _ _ hmax ((rk_ord c).rev this)
    have hhigh : ∀ v ∈ V.drop k, leP c u v = true := fun v hv => by
      rcases h2 with rfl | ⟨h, hl⟩
      · simp at hv
      · obtain ⟨i, hi, rfl⟩ := List.getElem_of_mem hv
        have hi' : k + i < V.length := by simp at hi; omega
        rw [List.getElem_drop]
        have hq := hQ V[k] (List.getElem_mem _)
        have h0 : leP c u V[k] = true := by
          have := (rk_ord c).lt_is hq
          rw [hl] at this
          simpa using this.symm
        by_cases hi0 : i = 0
        · subst hi0; simpa using h0
        · exact (rk_ord c).trans _ _ _ h0 (List.pairwise_iff_getElem.1 hV k (k + i) h hi' (by omega))
    refine ⟨hpair.1, List.pairwise_cons.2 ⟨hhigh, hpair.2.1⟩, fun p hp q hq => ?_⟩
    rcases List.mem_cons.1 hq with rfl | hq
    · exact hlow p hp
    · exact hpair.2.2 p hp q hq

theorem sm_case2 (c : Int) (P U S : List Int) (v : Int)
    (hU : U.Pairwise fun p q => leP c p q = true) (hQ : ∀ u ∈ U, Qp (leP c) (ltP c) u v) (k : Nat) (hk : k ≤ U.length) (h1 : k = 0 ∨ ∃ h : k - 1 < U.length, ltP c v U[k - 1] = false) (h2 : k = U.length ∨ ∃ h : k < U.length, ltP c v U[k] = true) :
    U.take k ++ (v :: U.drop k) = (U ++ [v]).mergeSort (leP c) := by
  refine (rk_ord c).srt ?_ ?_
  · refine List.Perm.trans List.perm_middle ?_
    rw [List.take_append_drop]; exact (List.perm_append_comm (l₁ := [v]) (l₂ := U))
  · have hpair := hU
    rw [← List.take_append_drop k U, List.pairwise_append] at hpair
    rw [List.pairwise_append]
    have hlow : ∀ u ∈ U.take k, leP c u v = true := fun u hu => by
      rcases h1 with rfl | ⟨h, hl⟩
      · simp at hu
      · obtain ⟨i, hi, rfl⟩ := List.getElem_of_mem hu
        have hi' : i < k := by simp at hi; omega
        rw [List.getElem_take]
        have hq := hQ U[k - 1] (List.getElem_mem _)
        have h0 : leP c U[k - 1] v = true := by
          have := (rk_ord c).lt_is hq
          rw [hl] at this
          simpa using this.symm
        by_cases hik : i = k - 1
        · subst hik; exact h0
        · exact (rk_ord c).trans _ _ _ (List.pairwise_iff_getElem.1 hU i (k - 1) (by omega) h (by omega)) h0
    have hhigh : ∀ u ∈ U.drop k, leP c v u = true := fun u hu => by
      rcases h2 with rfl | ⟨h, hl⟩
      · simp at hu
      · obtain ⟨i, hi, rfl⟩ := List.getElem_of_mem hu
        have hi' : k + i < U.length := by simp at hi; omega
        rw [List.getElem_drop]
        have hq := hQ U[k] (List.getElem_mem _)
        have h0 : leP c U[k] v = false := by
          have := (rk_ord c).lt_is hq
          rw [hl] at this
          simpa using this.symm
        have h0 := (rk_ord c).rev h0
        by_cases hi0 : i = 0
        · subst hi0; simpa using h0
        · exact (rk_ord c).trans _ _ _ h0 (List.pairwise_iff_getElem.1 hU k (k + i) h hi' (by omega))
    refine ⟨hpair.1, List.pairwise_cons.2 ⟨hhigh, hpair.2.1⟩, fun p hp q hq => ?_⟩
    rcases List.mem_cons.1 hq with rfl | hq
    · exact hlow p hp
    · exact hpair.2.2 p hp q hq

/-- where the two rows are cut: what lies across -/
theorem sm_cross (c : Int) (U V : List Int) (hU : U.Pairwise fun p q => leP c p q = true) (hV : V.Pairwise fun p q => leP c p q = true) (hQ : ∀ u ∈ U, ∀ v ∈ V, Qp (leP c) (ltP c) u v)
    (k j : Nat) (hk : k ≤ U.length) (hj : j ≤ V.length) (h1 : (k = 0 ∨ j = V.length) ∨ ∃ (a : k - 1 < U.length) (b : j < V.length), ltP c V[j] U[k - 1] = false) (h2 : (k = U.length ∨ j = 0) ∨ ∃ (a : k < U.length) (b : j - 1 < V.length), ltP c V[j - 1] U[k] = true) :
    (∀ u ∈ U.take k, ∀ v ∈ V.drop j, leP c u v = true) ∧ ∀ u ∈ U.drop k, ∀ v ∈ V.take j, leP c v u = true := by
  have refl : ∀ x, leP c x x = true := fun x => by simpa using (rk_ord c).total x x
  have up : ∀ {l : List Int}, (l.Pairwise fun p q => leP c p q = true) → ∀ (i j : Nat) (hi : i < l.length) (hj : j < l.length), i ≤ j → leP c l[i] l[j] = true := fun {l} hl i j hi hj hij => by
    by_cases h : i = j
    · subst h; exact refl _
    · exact List.pairwise_iff_getElem.1 hl i j hi hj (by omega)
  constructor
  · intro u hu v hv
    obtain ⟨i, hi, rfl⟩ := List.getElem_of_mem hu
    obtain ⟨i2, hi2, rfl⟩ := List.getElem_of_mem hv
    have hi' : i < k := by simp at hi; omega
    have hi2' : j + i2 < V.length := by simp at hi2; omega
    rw [List.getElem_take, List.getElem_drop]
    rcases h1 with (h1 | h1) | ⟨a, b, h1⟩
    · omega
    · omega
    · have hq := (rk_ord c).lt_is (hQ U[k - 1] (List.getElem_mem _) V[j] (List.getElem_mem _))
      rw [h1] at hq
      have h0 : leP c U[k - 1] V[j] = true := by simpa using hq.symm
      exact (rk_ord c).trans _ _ _ (up hU i (k - 1) (by omega) a (by omega)) ((rk_ord c).trans _ _ _ h0 (up hV j (j + i2) b hi2' (by omega)))
  · intro u hu v hv
    obtain ⟨i, hi, rfl⟩ := List.getElem_of_mem hu
    obtain ⟨i2, hi2, rfl⟩ := List.getElem_of_mem hv
    have hi' : k + i < U.length := by simp at hi; omega
    have hi2' : i2 < j := by simp at hi2; omega
    rw [List.getElem_take, List.getElem_drop]
    rcases h2 with (h2 | h2) | ⟨a, b, h2⟩
    · omega
    · omega
    · have hq := (rk_ord c).lt_is (hQ U[k] (List.getElem_mem _) V[j - 1] (List.getElem_mem _))
      rw [h2] at hq
      have h0 : leP c U[k] V[j - 1] = false := by simpa using hq.symm
      exact (rk_ord c).trans _ _ _ (up hV i2 (j - 1) (by omega) b (by omega)) ((rk_ord c).trans _ _ _ ((rk_ord c).rev h0) (up hU k (k + i) a hi' (by omega)))

theorem rot_all (c : Int) : ∀ (P X Y S : List Int), 0 < X.length → 0 < Y.length → P.length + X.length + Y.length < 4611686018427387904 → ∀ a m b : Int, a = (P.length : Int) → m = ((P.length + X.length : Nat) : Int) → b = ((P.length + X.length + Y.length : Nat) : Int) →
    (fun x a m b => slices_rotateCmpFunc_int_impl_OrderFor_1 x a m b c) (P ++ (X ++ (Y ++ S))) a m b = some (P ++ (Y ++ (X ++ S))) :=
  fun P X Y S hx hy hb a m b ha hm hbb => rotate_is P X Y S c hx hy hb ha hm hbb

theorem sm_mid (c : Int) {f : List Int → Int → Int → Int → Option (List Int)} {n : Nat} (hf : Merges c f n) (P U V S : List Int) (hn : U.length + V.length ≤ n + 1) (hu : 2 ≤ U.length) (hv : 2 ≤ V.length) (hb : P.length + U.length + V.length < 1152921504606846976)
    (hU : U.Pairwise fun p q => leP c p q = true) (hV : V.Pairwise fun p q => leP c p q = true) (hQ : ∀ u ∈ U, ∀ v ∈ V, Qp (leP c) (ltP c) u v)
    (k : Nat) (hk : k ≤ U.length) (mid : Nat) (hmid : mid = (P.length + (P.length + U.length + V.length)) / 2) (hk1 : P.length + k ≤ mid) (hk2 : mid - (P.length + k) ≤ V.length)
    (h1 : (k = 0 ∨ mid - (P.length + k) = V.length) ∨ ∃ (a : k - 1 < U.length) (b : mid - (P.length + k) < V.length), ltP c V[mid - (P.length + k)] U[k - 1] = false)
    (h2 : (k = U.length ∨ mid - (P.length + k) = 0) ∨ ∃ (a : k < U.length) (b : mid - (P.length + k) - 1 < V.length), ltP c V[mid - (P.length + k) - 1] U[k] = true) :
    smT (fun x a m b => slices_rotateCmpFunc_int_impl_OrderFor_1 x a m b c) f (P.length : Int) ((P.length + U.length : Nat) : Int) ((P.length + U.length + V.length : Nat) : Int) (mid : Int) (P ++ (U ++ (V ++ S))) ((P.length + k : Nat) : Int) = some (P ++ ((U ++ V).mergeSort (leP c) ++ S)) := by
  obtain ⟨hA, hB⟩ := sm_cross c U V hU hV hQ k _ hk hk2 h1 h2
  have eU : U.take k ++ U.drop k = U := List.take_append_drop _ _
  have eV : V.take (mid - (P.length + k)) ++ V.drop (mid - (P.length + k)) = V := List.take_append_drop _ _
  have l1 : (U.take k).length = k := by simp; omega
  have l2 : (U.drop k).length = U.length - k := by simp
  have l3 : (V.take (mid - (P.length + k))).length = mid - (P.length + k) := by simp; omega
  have l4 : (V.drop (mid - (P.length + k))).length = V.length - (mid - (P.length + k)) := by simp
  have := tail_is (rot := fun x a m b => slices_rotateCmpFunc_int_impl_OrderFor_1 x a m b c) hf (rot_all c) P (U.take k) (U.drop k) (V.take (mid - (P.length + k))) (V.drop (mid - (P.length + k))) S (by omega) (by omega) (by omega) (by rw [eU]; exact hU) (by rw [eV]; exact hV) (by rw [eU, eV]; exact hQ) hA hB
    (a := (P.length : Int)) (m := ((P.length + U.length : Nat) : Int)) (b := ((P.length + U.length + V.length : Nat) : Int)) (mid := (mid : Int)) (s := ((P.length + k : Nat) : Int)) rfl (by omega) (by omega) (by omega) (by omega)
  rw [eU, eV] at this
  exact this
end Go.Sh.D
set_option linter.unusedVariables false
set_option linter.unusedSimpArgs false
namespace Go.Sh.D
open Go
theorem bsearch_to {R : Type} {step : Int × Int → Option ((Int × Int) ⊕ R)} (p : Nat → Bool) (out : Nat → Option R) (lo hi : Nat) {goal : Option R} (hlh : lo ≤ hi)
    (hstep : ∀ i j : Nat, lo ≤ i → i < j → j ≤ hi → step ((i : Int), (j : Int)) = if p ((i + j) / 2) = true then some (.inl ((((i + j) / 2 + 1 : Nat) : Int), (j : Int))) else some (.inl ((i : Int), (((i + j) / 2 : Nat) : Int))))
    (hend : ∀ i : Nat, lo ≤ i → i ≤ hi → step ((i : Int), (i : Int)) = (out i).map .inr)
    (hfin : ∀ i : Nat, lo ≤ i → i ≤ hi → (i = lo ∨ p (i - 1) = true) → (i = hi ∨ p i = false) → out i = goal) : loopF step ((lo : Int), (hi : Int)) = goal := by
  obtain ⟨i, h1, h2, h3, h4, h5⟩ := bsearch step p out lo hi hlh hstep hend
  rw [h5]; exact hfin i h1 h2 h3 h4

theorem lt_self (i : Int) : N.lt i i = false := by simp [N.lt]
theorem lt_tt {a b : Int} (h : a < b) : N.lt a b = true := by rw [lt_d]; exact decide_eq_true h
theorem lt_ff {a b : Int} (h : ¬ a < b) : N.lt a b = false := by rw [lt_d]; exact decide_eq_false h
theorem gt_tt {a b : Int} (h : b < a) : N.gt a b = true := by rw [gt_d]; exact decide_eq_true h
theorem gt_ff {a b : Int} (h : ¬ b < a) : N.gt a b = false := by rw [gt_d]; exact decide_eq_false h
theorem eq_tt {a b : Int} (h : a = b) : N.eq a b = true := by rw [eq_d]; exact decide_eq_true h
theorem eq_ff {a b : Int} (h : ¬ a = b) : N.eq a b = false := by rw [eq_d]; exact decide_eq_false h
theorem cond_ite {R : Type} (b : Bool) (x y : Option R) : N.cond b x y = if b = true then x else y := rfl
theorem not_d (b : Bool) : N.not b = !b := rfl

theorem symMerge_f (c : Int) : ∀ n, Merges c (fun x a m b => slices_symMergeCmpFunc_int_impl_OrderFor_1_f n x a m b c) n
  | 0 => fun P U V S h1 h2 h3 => by omega
  | n + 1 => by
    have ih := symMerge_f c n
    intro P U V S h1 h2 h3 hb hU hV hQ a m b ha hm hbb
    have hma : N.sub .i64 m a = (U.length : Int) := by rw [sub_id (by omega) (by omega)]; omega
    have hbm : N.sub .i64 b m = (V.length : Int) := by rw [sub_id (by omega) (by omega)]; omega
    have hlen : N.len (P ++ (U ++ (V ++ S))) = ((P.length + U.length + V.length + S.length : Nat) : Int) := by rw [len_d]; simp; omega
    have hmid : N.conv .i64 (N.shr .u64 (N.conv .u64 (N.add .i64 a b)) 1) = (((P.length + (P.length + U.length + V.length)) / 2 : Nat) : Int) := by
      rw [ha, hbb]; exact half_is _ _ (by omega)
    show slices_symMergeCmpFunc_int_impl_OrderFor_1_f (n + 1) _ a m b c = _
    rw [slices_symMergeCmpFunc_int_impl_OrderFor_1_f]
    simp only [hma, hbm, hmid]
    by_cases c1 : U.length = 1
    · rw [eq_tt (by omega), cond_true]
      obtain ⟨u, rfl⟩ : ∃ u, U = [u] := List.length_eq_one_iff.1 c1
      have hru : N.rd (P ++ ([u] ++ (V ++ S))) a 0 = u := by
        have := rdL P [u] (V ++ S) 0 (by simp)
        rw [ha]; simpa using this
      subst hm hbb
      refine bsearch_to (fun h => ltP c (V.getD (h - (P.length + [u].length)) 0) u) (fun i => some (P ++ ((V.take (i - (P.length + [u].length)) ++ (u :: V.drop (i - (P.length + [u].length)))) ++ S))) (P.length + [u].length) (P.length + [u].length + V.length) (by omega) (fun i j q1 q2 q3 => ?_) (fun i q1 q2 => ?_) (fun i q1 q2 q3 q4 => ?_)
      · have hh := half_is i j (by omega)
        obtain ⟨q, hq⟩ : ∃ q, (i + j) / 2 = P.length + [u].length + q := ⟨(i + j) / 2 - (P.length + [u].length), by omega⟩
        have hqV : q < V.length := by omega
        have hrv := rdL2 P [u] V S q hqV
        obtain ⟨r, hr, hr2⟩ := cmp_is V[q] u c
        have hg : V.getD (P.length + [u].length + q - (P.length + [u].length)) 0 = V[q] := by simp [hqV]
        have hn1 : N.add .i64 ((P.length + [u].length + q : Nat) : Int) 1 = ((P.length + [u].length + q + 1 : Nat) : Int) := by rw [add_id (by omega) (by omega)]; omega
        simp only [lt_tt (show (i : Int) < (j : Int) by omega), cond_true, hh]
        rw [hq]
        simp only [hlen, hrv, hru, hr, bind_some', hr2, cond_ite, hn1, hg]
        rw [nite_pos (by omega), nite_pos (by omega), nite_pos (by omega), nite_pos (by omega)]
      · simp only [lt_self, cond_false]
        have hk : i - (P.length + [u].length) ≤ V.length := by omega
        have e1 : N.sub .i64 (i : Int) 1 = ((P.length + (V.take (i - (P.length + [u].length))).length : Nat) : Int) := by
          have : (V.take (i - (P.length + [u].length))).length = i - (P.length + [u].length) := by simp; omega
          simp only [List.length_cons, List.length_nil] at q1 q2 this ⊢
          rw [this, sub_id (by omega) (by omega)]; omega
        have := moveR_is P (V.take (i - (P.length + [u].length))) (V.drop (i - (P.length + [u].length)) ++ S) u (a := a) (e := (i : Int)) ha e1 (by simp; omega)
        rw [show (P ++ (u :: (V.take (i - (P.length + [u].length)) ++ (V.drop (i - (P.length + [u].length)) ++ S)))) = P ++ ([u] ++ (V ++ S)) by rw [← List.append_assoc (V.take _), List.take_append_drop]; rfl] at this
        rw [this]; simp
      · have := sm_case1 c P V S u (by simpa using hb) hV (fun v hv => hQ u (by simp) v hv) (i - (P.length + [u].length)) (by omega) ?_ ?_
        · simp only [this]
        · rcases q3 with q3 | q3
          · exact .inl (by omega)
          · by_cases h0 : i = P.length + [u].length
            · exact .inl (by omega)
            · have hlt : i - (P.length + [u].length) - 1 < V.length := by omega
              refine .inr ⟨hlt, ?_⟩
              have e : V.getD (i - (P.length + [u].length) - 1) 0 = V[i - (P.length + [u].length) - 1] := by rw [List.getD, List.getElem?_eq_getElem hlt]; rfl
              rw [show i - 1 - (P.length + [u].length) = i - (P.length + [u].length) - 1 by omega, e] at q3
              exact q3
        · rcases q4 with q4 | q4
          · exact .inl (by omega)
          · by_cases h0 : i = P.length + [u].length + V.length
            · exact .inl (by omega)
            · have hlt : i - (P.length + [u].length) < V.length := by omega
              refine .inr ⟨hlt, ?_⟩
              have e : V.getD (i - (P.length + [u].length)) 0 = V[i - (P.length + [u].length)] := by rw [List.getD, List.getElem?_eq_getElem hlt]; rfl
              rw [e] at q4
              exact q4
    · rw [eq_ff (by omega), cond_false]
      by_cases c2 : V.length = 1
      · rw [eq_tt (by omega), cond_true]
        obtain ⟨v, rfl⟩ : ∃ v, V = [v] := List.length_eq_one_iff.1 c2
        have hrv : N.rd (P ++ (U ++ ([v] ++ S))) m 0 = v := by
          have := rdL2 P U [v] S 0 (by simp)
          rw [hm]; simpa using this
        subst ha
        have hm0 := hm
        rw [hm]
        rw [hm] at hrv
        refine bsearch_to (fun h => !ltP c v (U.getD (h - P.length) 0)) (fun i => some (P ++ ((U.take (i - P.length) ++ (v :: U.drop (i - P.length))) ++ S))) P.length (P.length + U.length) (by omega) (fun i j q1 q2 q3 => ?_) (fun i q1 q2 => ?_) (fun i q1 q2 q3 q4 => ?_)
        · have hh := half_is i j (by omega)
          obtain ⟨q, hq⟩ : ∃ q, (i + j) / 2 = P.length + q := ⟨(i + j) / 2 - P.length, by omega⟩
          have hqU : q < U.length := by omega
          have hru := rdL P U ([v] ++ S) q hqU
          obtain ⟨r, hr, hr2⟩ := cmp_is v U[q] c
          have hg : U.getD (P.length + q - P.length) 0 = U[q] := by simp [hqU]
          have hn1 : N.add .i64 ((P.length + q : Nat) : Int) 1 = ((P.length + q + 1 : Nat) : Int) := by rw [add_id (by omega) (by omega)]; omega
          simp only [lt_tt (show (i : Int) < (j : Int) by omega), cond_true, hh]
          rw [hq]
          simp only [hlen, hrv, hru, hr, bind_some', hr2, not_d, cond_ite, hn1, hg]
          rw [nite_pos (by omega), nite_pos (by omega), nite_pos (by omega), nite_pos (by omega)]
        · simp only [lt_self, cond_false]
          have hl : (U.take (i - P.length)).length = i - P.length := by simp; omega
          have := moveL_is (P ++ U.take (i - P.length)) (U.drop (i - P.length)) S v (e := (i : Int)) (m := ((P.length + U.length : Nat) : Int)) (by simp only [List.length_append, hl]; omega) (by simp only [List.length_append, hl, List.length_drop]; omega) (by simp only [List.length_append, hl, List.length_drop]; omega)
          rw [show (P ++ U.take (i - P.length)) ++ (U.drop (i - P.length) ++ (v :: S)) = P ++ (U ++ ([v] ++ S)) by rw [List.append_assoc, ← List.append_assoc (U.take _), List.take_append_drop]; rfl] at this
          rw [this]; simp
        · have := sm_case2 c P U S v hU (fun u hu => hQ u hu v (by simp)) (i - P.length) (by omega) ?_ ?_
          · simp only [this]
          · rcases q3 with q3 | q3
            · exact .inl (by omega)
            · by_cases h0 : i = P.length
              · exact .inl (by omega)
              · have hlt : i - P.length - 1 < U.length := by omega
                refine .inr ⟨hlt, ?_⟩
                rw [show i - 1 - P.length = i - P.length - 1 by omega] at q3
                simpa [List.getD, hlt] using q3
          · rcases q4 with q4 | q4
            · exact .inl (by omega)
            · by_cases h0 : i = P.length + U.length
              · exact .inl (by omega)
              · have hlt : i - P.length < U.length := by omega
                refine .inr ⟨hlt, ?_⟩
                simpa [List.getD, hlt] using q4
      · rw [eq_ff (by omega), cond_false]
        generalize hM : (P.length + (P.length + U.length + V.length)) / 2 = mid
        rw [hM] at hmid
        have hnn : N.sub .i64 (N.add .i64 (mid : Int) m) 1 = ((mid + (P.length + U.length) - 1 : Nat) : Int) := by rw [add_id (by omega) (by omega), sub_id (by omega) (by omega)]; omega
        -- a round of the search
        have round : ∀ (i j q : Nat), (i + j) / 2 = P.length + q → i < j → i + j < 4611686018427387904 → q < U.length → P.length + q < mid → mid - (P.length + q) - 1 < V.length →
            N.sub .i64 ((mid + (P.length + U.length) - 1 : Nat) : Int) ((P.length + q : Nat) : Int) = ((P.length + U.length + (mid - (P.length + q) - 1) : Nat) : Int) := fun i j q g1 g2 g3 g4 g5 g6 => by
          rw [sub_id (by omega) (by omega)]; omega
        subst ha hm hbb
        by_cases c3 : ((mid : Nat) : Int) < ((P.length + U.length : Nat) : Int)
        · rw [gt_tt c3, cond_true]
          have hs0 : N.sub .i64 (N.add .i64 (mid : Int) ((P.length + U.length : Nat) : Int)) ((P.length + U.length + V.length : Nat) : Int) = ((mid - V.length : Nat) : Int) := by rw [add_id (by omega) (by omega), sub_id (by omega) (by omega)]; omega
          simp only [hs0, hnn]
          refine bsearch_to (fun h => !ltP c (V.getD (mid - h - 1) 0) (U.getD (h - P.length) 0)) (fun i => smT (fun x a m b => slices_rotateCmpFunc_int_impl_OrderFor_1 x a m b c) (fun x a m b => slices_symMergeCmpFunc_int_impl_OrderFor_1_f n x a m b c) (P.length : Int) ((P.length + U.length : Nat) : Int) ((P.length + U.length + V.length : Nat) : Int) (mid : Int) (P ++ (U ++ (V ++ S))) (i : Int)) (mid - V.length) mid (by omega) (fun i j q1 q2 q3 => ?_) (fun i q1 q2 => ?_) (fun i q1 q2 q3 q4 => ?_)
          · have hh := half_is i j (by omega)
            obtain ⟨q, hq⟩ : ∃ q, (i + j) / 2 = P.length + q := ⟨(i + j) / 2 - P.length, by omega⟩
            have hqU : q < U.length := by omega
            have hqV : mid - (P.length + q) - 1 < V.length := by omega
            have hpc := round i j q hq q2 (by omega) hqU (by omega) hqV
            have hru := rdL P U (V ++ S) q hqU
            have hrv := rdL2 P U V S _ hqV
            obtain ⟨r, hr, hr2⟩ := cmp_is V[mid - (P.length + q) - 1] U[q] c
            have hg : U.getD (P.length + q - P.length) 0 = U[q] := by simp [hqU]
            have hg2 : V.getD (mid - (P.length + q) - 1) 0 = V[mid - (P.length + q) - 1] := by simp [hqV]
            have hn1 : N.add .i64 ((P.length + q : Nat) : Int) 1 = ((P.length + q + 1 : Nat) : Int) := by rw [add_id (by omega) (by omega)]; omega
            simp only [lt_tt (show (i : Int) < (j : Int) by omega), cond_true, hh]
            rw [hq]
            simp only [hpc, hlen, hrv, hru, hr, bind_some', hr2, not_d, cond_ite, hn1, hg, hg2]
            rw [nite_pos (by omega), nite_pos (by omega), nite_pos (by omega), nite_pos (by omega)]
          · simp only [lt_self, cond_false]
            rfl
          · have := sm_mid c ih P U V S h3 (by omega) (by omega) hb hU hV hQ (i - P.length) (by omega) mid hM.symm (by omega) (by omega) ?_ ?_
            · rw [show ((P.length + (i - P.length) : Nat) : Int) = (i : Int) by omega] at this
              exact this
            · by_cases h0 : i = mid - V.length
              · exact .inl (.inr (by omega))
              · rcases q3 with q3 | q3
                · exact absurd q3 h0
                · have a1 : i - P.length - 1 < U.length := by omega
                  have a2 : mid - (P.length + (i - P.length)) < V.length := by omega
                  refine .inr ⟨a1, a2, ?_⟩
                  rw [show mid - (i - 1) - 1 = mid - (P.length + (i - P.length)) by omega, show i - 1 - P.length = i - P.length - 1 by omega] at q3
                  simpa [List.getD, a1, a2] using q3
            · by_cases h0 : i = mid
              · exact .inl (.inr (by omega))
              · rcases q4 with q4 | q4
                · exact absurd q4 h0
                · have a1 : i - P.length < U.length := by omega
                  have a2 : mid - (P.length + (i - P.length)) - 1 < V.length := by omega
                  refine .inr ⟨a1, a2, ?_⟩
                  rw [show mid - i - 1 = mid - (P.length + (i - P.length)) - 1 by omega] at q4
                  simpa [List.getD, a1, a2] using q4
        · rw [gt_ff c3, cond_false]
          simp only [hnn]
          refine bsearch_to (fun h => !ltP c (V.getD (mid - h - 1) 0) (U.getD (h - P.length) 0)) (fun i => smT (fun x a m b => slices_rotateCmpFunc_int_impl_OrderFor_1 x a m b c) (fun x a m b => slices_symMergeCmpFunc_int_impl_OrderFor_1_f n x a m b c) (P.length : Int) ((P.length + U.length : Nat) : Int) ((P.length + U.length + V.length : Nat) : Int) (mid : Int) (P ++ (U ++ (V ++ S))) (i : Int)) P.length (P.length + U.length) (by omega) (fun i j q1 q2 q3 => ?_) (fun i q1 q2 => ?_) (fun i q1 q2 q3 q4 => ?_)
          · have hh := half_is i j (by omega)
            obtain ⟨q, hq⟩ : ∃ q, (i + j) / 2 = P.length + q := ⟨(i + j) / 2 - P.length, by omega⟩
            have hqU : q < U.length := by omega
            have hqV : mid - (P.length + q) - 1 < V.length := by omega
            have hpc := round i j q hq q2 (by omega) hqU (by omega) hqV
            have hru := rdL P U (V ++ S) q hqU
            have hrv := rdL2 P U V S _ hqV
            obtain ⟨r, hr, hr2⟩ := cmp_is V[mid - (P.length + q) - 1] U[q] c
            have hg : U.getD (P.length + q - P.length) 0 = U[q] := by simp [hqU]
            have hg2 : V.getD (mid - (P.length + q) - 1) 0 = V[mid - (P.length + q) - 1] := by simp [hqV]
            have hn1 : N.add .i64 ((P.length + q : Nat) : Int) 1 = ((P.length + q + 1 : Nat) : Int) := by rw [add_id (by omega) (by omega)]; omega
            simp only [lt_tt (show (i : Int) < (j : Int) by omega), cond_true, hh]
            rw [hq]
            simp only [hpc, hlen, hrv, hru, hr, bind_some', hr2, not_d, cond_ite, hn1, hg, hg2]
            rw [nite_pos (by omega), nite_pos (by omega), nite_pos (by omega), nite_pos (by omega)]
          · simp only [lt_self, cond_false]
            rfl
          · have := sm_mid c ih P U V S h3 (by omega) (by omega) hb hU hV hQ (i - P.length) (by omega) mid hM.symm (by omega) (by omega) ?_ ?_
            · rw [show ((P.length + (i - P.length) : Nat) : Int) = (i : Int) by omega] at this
              exact this
            · by_cases h0 : i = P.length
              · exact .inl (.inl (by omega))
              · rcases q3 with q3 | q3
                · exact absurd q3 h0
                · have a1 : i - P.length - 1 < U.length := by omega
                  have a2 : mid - (P.length + (i - P.length)) < V.length := by omega
                  refine .inr ⟨a1, a2, ?_⟩
                  rw [show mid - (i - 1) - 1 = mid - (P.length + (i - P.length)) by omega, show i - 1 - P.length = i - P.length - 1 by omega] at q3
                  simpa [List.getD, a1, a2] using q3
            · by_cases h0 : i = P.length + U.length
              · exact .inl (.inl (by omega))
              · rcases q4 with q4 | q4
                · exact absurd q4 h0
                · have a1 : i - P.length < U.length := by omega
                  have a2 : mid - (P.length + (i - P.length)) - 1 < V.length := by omega
                  refine .inr ⟨a1, a2, ?_⟩
                  rw [show mid - i - 1 = mid - (P.length + (i - P.length)) - 1 by omega] at q4
                  simpa [List.getD, a1, a2] using q4

theorem symMerge_is (c : Int) : ∀ n, Merges c (fun x a m b => slices_symMergeCmpFunc_int_impl_OrderFor_1 x a m b c) n := by
  intro n P U V S h1 h2 h3 hb hU hV hQ a m b ha hm hbb
  have := symMerge_f c ((P ++ (U ++ (V ++ S))).length + 1) P U V S h1 h2 (by simp; omega) hb hU hV hQ a m b ha hm hbb
  exact this
end Go.Sh.D
set_option linter.unusedVariables false
set_option linter.unusedSimpArgs false
namespace Go.Sh.D
open Go
theorem le_tt {a b : Int} (h : a ≤ b) : N.le a b = true := by rw [le_d]; exact decide_eq_true h
theorem le_ff {a b : Int} (h : ¬ a ≤ b) : N.le a b = false := by rw [le_d]; exact decide_eq_false h

theorem Qp_parts {c : Int} {P U V S : List Int} (h : (P ++ (U ++ (V ++ S))).Pairwise (Qp (leP c) (ltP c))) : U.Pairwise (Qp (leP c) (ltP c)) ∧ ∀ u ∈ U, ∀ v ∈ V, Qp (leP c) (ltP c) u v := by
  have h1 := (List.pairwise_append.1 h).2.1
  have h2 := List.pairwise_append.1 h1
  exact ⟨h2.1, fun u hu v hv => h2.2.2 u hu v (List.mem_append_left _ hv)⟩

/-- merging the blocks of s, two and two -/
theorem merge_round (c : Int) (n s : Nat) (hn : n < 576460752303423488) (hs : 0 < s) (hsn : s < n) {β : Type} (xs : List Int) : ∀ (m q : Nat) (done todo : List Int), todo.length ≤ m → (done ++ todo).length = n → done.length = q * (2 * s) → BS (leP c) (2 * s) done → BS (leP c) s todo →
    (done ++ todo).Pairwise (Qp (leP c) (ltP c)) → (done ++ todo).Perm xs →
    ∀ (step : Int × Int × List Int → Option ((Int × Int × List Int) ⊕ ((Int × List Int) ⊕ β))), step = (fun (s3 : Int × Int × List Int) =>
                            N.cond (N.le s3.2.1 (n : Int))
                              (N.bind (slices_symMergeCmpFunc_int_impl_OrderFor_1 s3.2.2 s3.1 (N.add .i64 s3.1 (s : Int)) s3.2.1 c) fun r3 =>
                                  some (.inl (s3.2.1, N.add .i64 s3.2.1 (N.mul .i64 2 (s : Int)), r3)))
                              (Option.map Sum.inr
                                  (N.cond (N.lt (N.add .i64 s3.1 (s : Int)) (n : Int))
                                      (N.bind (slices_symMergeCmpFunc_int_impl_OrderFor_1 s3.2.2 s3.1 (N.add .i64 s3.1 (s : Int)) (n : Int) c) fun r4 =>
                                          some (.inl (N.mul .i64 (s : Int) 2, r4)))
                                      (some (.inl (N.mul .i64 (s : Int) 2, s3.2.2)))))) →
    ∃ l, loopF step ((done.length : Int), ((done.length + 2 * s : Nat) : Int), done ++ todo) = some (.inl (((2 * s : Nat) : Int), l)) ∧ l.length = n ∧ BS (leP c) (2 * s) l ∧ l.Pairwise (Qp (leP c) (ltP c)) ∧ l.Perm xs := by
  intro m
  induction m with
  | zero =>
    intro q done todo hm hl hd hBd hBt hq hp step hst
    obtain rfl : todo = [] := List.length_eq_zero_iff.1 (by omega)
    rw [List.append_nil] at *
    have e1 : N.add .i64 (done.length : Int) (s : Int) = ((done.length + s : Nat) : Int) := by rw [add_id (by omega) (by omega)]; omega
    have e2 : N.mul .i64 (s : Int) 2 = ((2 * s : Nat) : Int) := by rw [mul_id (by omega) (by omega)]; omega
    refine ⟨done, loopF_inr ?_, hl, hBd, hq, hp⟩
    rw [hst]
    simp only [le_ff (show ¬ ((done.length + 2 * s : Nat) : Int) ≤ (n : Int) by omega), cond_false, e1, lt_ff (show ¬ ((done.length + s : Nat) : Int) < (n : Int) by omega), e2]
    rfl
  | succ m ih =>
    intro q done todo hm hl hd hBd hBt hq hp step hst
    rw [List.length_append] at hl
    have e1 : N.add .i64 (done.length : Int) (s : Int) = ((done.length + s : Nat) : Int) := by rw [add_id (by omega) (by omega)]; omega
    have e2 : N.mul .i64 (s : Int) 2 = ((2 * s : Nat) : Int) := by rw [mul_id (by omega) (by omega)]; omega
    have e3 : N.mul .i64 2 (s : Int) = ((2 * s : Nat) : Int) := by rw [mul_id (by omega) (by omega)]; omega
    have e4 : N.add .i64 ((done.length + 2 * s : Nat) : Int) ((2 * s : Nat) : Int) = ((done.length + 2 * s + 2 * s : Nat) : Int) := by rw [add_id (by omega) (by omega)]; omega
    -- the two blocks ahead
    have hU := BS_head hBt
    have hV := BS_head (BS_tail hBt)
    have ht : todo.take s ++ ((todo.drop s).take s ++ (todo.drop s).drop s) = todo := by rw [List.take_append_drop, List.take_append_drop]
    have lU : (todo.take s).length = min s todo.length := by simp
    have lV : ((todo.drop s).take s).length = min s (todo.length - s) := by simp
    have hBr := BS_tail (BS_tail hBt)
    have lR : ((todo.drop s).drop s).length = todo.length - s - s := by simp; omega
    generalize todo.take s = U at *
    generalize (todo.drop s).take s = V at *
    generalize (todo.drop s).drop s = T at *
    subst ht
    rw [List.length_append, List.length_append] at *
    have hqp := Qp_parts hq
    have srtlen : ((U ++ V).mergeSort (leP c)).length = U.length + V.length := by rw [List.length_mergeSort]; simp
    have hq' : (done ++ ((U ++ V).mergeSort (leP c) ++ T)).Pairwise (Qp (leP c) (ltP c)) := by
      have := Ordr.rep (le := leP c) (lt := ltP c) (P := done) (U := U ++ V) (U' := (U ++ V).mergeSort (leP c)) (S := T) (by simpa using hq) (List.mergeSort_perm _ _) ((rk_ord c).asc _)
      simpa using this
    have hp' : (done ++ ((U ++ V).mergeSort (leP c) ++ T)).Perm xs := by
      refine List.Perm.trans ?_ hp
      refine List.Perm.append_left _ ?_
      rw [← List.append_assoc]
      exact (List.mergeSort_perm _ _).append_right _
    by_cases hfull : done.length + 2 * s ≤ n
    · have hUs : U.length = s := by omega
      have hVs : V.length = s := by omega
      have hsm := symMerge_is c (2 * s) done U V T (by omega) (by omega) (by omega) (by omega) hU hV hqp.2 (done.length : Int) ((done.length + s : Nat) : Int) ((done.length + 2 * s : Nat) : Int) rfl (by omega) (by omega)
      have hsm : slices_symMergeCmpFunc_int_impl_OrderFor_1 (done ++ (U ++ (V ++ T))) (done.length : Int) ((done.length + s : Nat) : Int) ((done.length + 2 * s : Nat) : Int) c = some (done ++ ((U ++ V).mergeSort (leP c) ++ T)) := hsm
      have hstep : step ((done.length : Int), ((done.length + 2 * s : Nat) : Int), done ++ (U ++ (V ++ T))) = some (.inl (((done.length + 2 * s : Nat) : Int), ((done.length + 2 * s + 2 * s : Nat) : Int), done ++ ((U ++ V).mergeSort (leP c) ++ T))) := by
        rw [hst]
        simp only [le_tt (show ((done.length + 2 * s : Nat) : Int) ≤ (n : Int) by omega), cond_true, e1, hsm, bind_some', e3, e4]
      rw [loopF_inl hstep]
      have hdl : (done ++ (U ++ V).mergeSort (leP c)).length = done.length + 2 * s := by rw [List.length_append, srtlen]; omega
      obtain ⟨l, r1, r2⟩ := ih (q + 1) (done ++ (U ++ V).mergeSort (leP c)) T (by omega) (by rw [List.length_append, hdl]; omega) (by rw [hdl, hd, Nat.add_mul]; omega) (BS_app hBd hd ((rk_ord c).asc _) (by rw [srtlen]; omega)) hBr (by rw [List.append_assoc]; exact hq') (by rw [List.append_assoc]; exact hp') step hst
      rw [hdl, List.append_assoc] at r1
      exact ⟨l, r1, r2⟩
    · have hT : T = [] := List.length_eq_zero_iff.1 (by omega)
      subst hT
      rw [List.append_nil] at *
      by_cases hsome : done.length + s < n
      · have hUs : U.length = s := by omega
        have hsm := symMerge_is c (2 * s) done U V [] (by omega) (by omega) (by omega) (by omega) hU hV hqp.2 (done.length : Int) ((done.length + s : Nat) : Int) (n : Int) rfl (by omega) (by simp only [List.length_nil] at hl; omega)
        have hsm : slices_symMergeCmpFunc_int_impl_OrderFor_1 (done ++ (U ++ (V ++ []))) (done.length : Int) ((done.length + s : Nat) : Int) (n : Int) c = some (done ++ ((U ++ V).mergeSort (leP c) ++ [])) := hsm
        rw [List.append_nil, List.append_nil] at hsm
        refine ⟨done ++ (U ++ V).mergeSort (leP c), loopF_inr ?_, by rw [List.length_append, srtlen]; simp only [List.length_nil] at hl; omega, BS_app hBd hd ((rk_ord c).asc _) (by rw [srtlen]; omega), hq', hp'⟩
        rw [hst]
        simp only [le_ff (show ¬ ((done.length + 2 * s : Nat) : Int) ≤ (n : Int) by omega), cond_false, e1, lt_tt (show ((done.length + s : Nat) : Int) < (n : Int) by omega), cond_true, hsm, bind_some', e2]
        rfl
      · have hV0 : V = [] := List.length_eq_zero_iff.1 (by simp only [List.length_nil] at hl; omega)
        subst hV0
        rw [List.append_nil] at *
        refine ⟨done ++ U, loopF_inr ?_, by rw [List.length_append]; simp only [List.length_nil] at hl; omega, BS_app hBd hd hU (by omega), hq, hp⟩
        rw [hst]
        simp only [le_ff (show ¬ ((done.length + 2 * s : Nat) : Int) ≤ (n : Int) by omega), cond_false, e1, lt_ff (show ¬ ((done.length + s : Nat) : Int) < (n : Int) by omega), e2]
        rfl
end Go.Sh.D
set_option linter.unusedVariables false
set_option linter.unusedSimpArgs false
namespace Go.Sh.D
open Go
theorem merge_all (c : Int) (n : Nat) (hn : n < 576460752303423488) (xs : List Int) : ∀ (m s : Nat) (l : List Int), n - s ≤ m → 0 < s → s < 1152921504606846976 → l.length = n → BS (leP c) s l → l.Pairwise (Qp (leP c) (ltP c)) → l.Perm xs →
    loopF (fun (s2 : Int × List Int) =>
                    N.cond (N.lt s2.1 (n : Int))
                      (
                        loopF (fun (s3 : Int × Int × List Int) =>
                            N.cond (N.le s3.2.1 (n : Int))
                              (
                                N.bind (slices_symMergeCmpFunc_int_impl_OrderFor_1 s3.2.2 s3.1 (N.add .i64 s3.1 s2.1) s3.2.1 c) fun r3 =>
                                  some (.inl (s3.2.1, N.add .i64 s3.2.1 (N.mul .i64 2 s2.1), r3)))
                              (
                                Option.map Sum.inr
                                  (
                                    N.cond (N.lt (N.add .i64 s3.1 s2.1) (n : Int))
                                      (
                                        N.bind (slices_symMergeCmpFunc_int_impl_OrderFor_1 s3.2.2 s3.1 (N.add .i64 s3.1 s2.1) (n : Int) c) fun r4 =>
                                          some (.inl (N.mul .i64 s2.1 2, r4)))
                                      (some (.inl (N.mul .i64 s2.1 2, s3.2.2))))))
                          (0, N.mul .i64 2 s2.1, s2.2))
                      (some (.inr s2.2))) ((s : Int), l) = some (xs.mergeSort (leP c)) := by
  intro m
  induction m with
  | zero =>
    intro s l hm hs hsb hl hB hq hp
    refine loopF_inr ?_
    simp only [lt_ff (show ¬ (s : Int) < (n : Int) by omega), cond_false]
    rw [(rk_ord c).srt hp (BS_all hB (by omega))]
  | succ m ih =>
    intro s l hm hs hsb hl hB hq hp
    by_cases hlt : s < n
    · have e3 : N.mul .i64 2 (s : Int) = ((([] : List Int).length + 2 * s : Nat) : Int) := by rw [mul_id (by omega) (by omega)]; simp
      obtain ⟨l', r1, r2, r3, r4, r5⟩ := merge_round c n s hn hs hlt (β := List Int) xs l.length 0 [] l (Nat.le_refl _) (by simpa using hl) (by simp) BS_nil hB (by simpa using hq) (by simpa using hp) _ rfl
      have hstep := r1
      rw [← e3] at hstep
      rw [loopF_inl (s' := (((2 * s : Nat) : Int), l'))]
      · exact ih (2 * s) l' (by omega) (by omega) (by omega) r2 r3 r4 r5
      · simp only [lt_tt (show (s : Int) < (n : Int) by omega), cond_true]
        exact hstep
    · refine loopF_inr ?_
      simp only [lt_ff (show ¬ (s : Int) < (n : Int) by omega), cond_false]
      rw [(rk_ord c).srt hp (BS_all hB (by omega))]

theorem stable_is (c : Int) (xs : List Int) (hb : xs.length < 576460752303423488) (hq : xs.Pairwise (Qp (leP c) (ltP c))) : slices_stableCmpFunc_int_impl_OrderFor_1 xs (xs.length : Int) c = some (xs.mergeSort (leP c)) := by
  unfold slices_stableCmpFunc_int_impl_OrderFor_1
  have key := loop_meas (step := (fun (s1 : Int × Int × List Int) =>
      N.cond (N.le s1.2.1 (xs.length : Int))
        (
          N.bind (slices_insertionSortCmpFunc_int_impl_OrderFor_1 s1.2.2 s1.1 s1.2.1 c) fun r1 =>
            some (.inl (s1.2.1, N.add .i64 s1.2.1 20, r1)))
        (
          Option.map Sum.inr
            (
              N.bind (slices_insertionSortCmpFunc_int_impl_OrderFor_1 s1.2.2 s1.1 (xs.length : Int) c) fun r2 =>
                loopF (fun (s2 : Int × List Int) =>
                    N.cond (N.lt s2.1 (xs.length : Int))
                      (
                        loopF (fun (s3 : Int × Int × List Int) =>
                            N.cond (N.le s3.2.1 (xs.length : Int))
                              (
                                N.bind (slices_symMergeCmpFunc_int_impl_OrderFor_1 s3.2.2 s3.1 (N.add .i64 s3.1 s2.1) s3.2.1 c) fun r3 =>
                                  some (.inl (s3.2.1, N.add .i64 s3.2.1 (N.mul .i64 2 s2.1), r3)))
                              (
                                Option.map Sum.inr
                                  (
                                    N.cond (N.lt (N.add .i64 s3.1 s2.1) (xs.length : Int))
                                      (
                                        N.bind (slices_symMergeCmpFunc_int_impl_OrderFor_1 s3.2.2 s3.1 (N.add .i64 s3.1 s2.1) (xs.length : Int) c) fun r4 =>
                                          some (.inl (N.mul .i64 s2.1 2, r4)))
                                      (some (.inl (N.mul .i64 s2.1 2, s3.2.2))))))
                          (0, N.mul .i64 2 s2.1, s2.2))
                      (some (.inr s2.2)))
                  (20, r2)))))
    (fun s => ∃ (k : Nat) (done todo : List Int), s = ((done.length : Int), ((done.length + 20 : Nat) : Int), done ++ todo) ∧ done.length = k * 20 ∧ BS (leP c) 20 done ∧ (done ++ todo).Pairwise (Qp (leP c) (ltP c)) ∧ (done ++ todo).Perm xs)
    (fun s => xs.length + 40 - s.2.1.toNat) (fun r => r = xs.mergeSort (leP c)) (fun s hs => ?_) (0, 20, xs) ⟨0, [], xs, rfl, rfl, BS_nil, hq, List.Perm.refl _⟩
  · obtain ⟨r, h1, rfl⟩ := key
    exact h1
  · obtain ⟨k, done, todo, rfl, hd, hB, hq, hp⟩ := hs
    have hl : done.length + todo.length = xs.length := by rw [← hp.length_eq, List.length_append]
    by_cases hfull : done.length + 20 ≤ xs.length
    · left
      have ht : todo.take 20 ++ todo.drop 20 = todo := List.take_append_drop _ _
      have l1 : (todo.take 20).length = 20 := by simp; omega
      generalize todo.take 20 = U at *
      generalize todo.drop 20 = T at *
      subst ht
      have hqU : U.Pairwise (Qp (leP c) (ltP c)) := (Qp_parts (V := []) (S := T) (by simpa using hq)).1
      have := insertion_is c done U T hqU (by omega) (a := (done.length : Int)) (b := ((done.length + 20 : Nat) : Int)) rfl (by omega)
      have e4 : N.add .i64 ((done.length + 20 : Nat) : Int) 20 = ((done.length + 20 + 20 : Nat) : Int) := by rw [add_id (by omega) (by omega)]; omega
      have hsl : (U.mergeSort (leP c)).length = 20 := by rw [List.length_mergeSort]; exact l1
      refine ⟨(((done.length + 20 : Nat) : Int), ((done.length + 20 + 20 : Nat) : Int), done ++ (U.mergeSort (leP c) ++ T)), by simp only [le_tt (show ((done.length + 20 : Nat) : Int) ≤ (xs.length : Int) by omega), cond_true, this, bind_some', e4], ⟨k + 1, done ++ U.mergeSort (leP c), T, ?_, ?_, ?_, ?_, ?_⟩, ?_⟩
      · rw [List.length_append, hsl, List.append_assoc]
      · rw [List.length_append, hsl, hd]; omega
      · exact BS_app hB hd ((rk_ord c).asc _) (by omega)
      · exact Ordr.rep (by simpa using hq) (List.mergeSort_perm _ _) ((rk_ord c).asc _)
      · refine List.Perm.trans ?_ hp
        rw [List.append_assoc]
        exact List.Perm.append_left _ ((List.mergeSort_perm _ _).append_right _)
      · simp only [Int.toNat_natCast]
        omega
    · right
      have hqU : todo.Pairwise (Qp (leP c) (ltP c)) := (List.pairwise_append.1 hq).2.1
      have := insertion_is c done todo [] hqU (by omega) (a := (done.length : Int)) (b := (xs.length : Int)) rfl (by omega)
      rw [List.append_nil, List.append_nil] at this
      have hsl : (todo.mergeSort (leP c)).length = todo.length := List.length_mergeSort _
      have h2 := merge_all c xs.length hb xs (xs.length - 20) 20 (done ++ todo.mergeSort (leP c)) (Nat.le_refl _) (by omega) (by omega) (by rw [List.length_append, hsl]; exact hl) (BS_app hB hd ((rk_ord c).asc _) (by omega))
        (by have := Ordr.rep (le := leP c) (lt := ltP c) (P := done) (U := todo) (U' := todo.mergeSort (leP c)) (S := []) (by simpa using hq) (List.mergeSort_perm _ _) ((rk_ord c).asc _); simpa using this)
        ((List.Perm.append_left _ (List.mergeSort_perm _ _)).trans hp)
      refine ⟨_, ?_, rfl⟩
      simp only [le_ff (show ¬ ((done.length + 20 : Nat) : Int) ≤ (xs.length : Int) by omega), cond_false, this, bind_some']
      rw [show ((20 : Nat) : Int) = (20 : Int) from rfl] at h2
      rw [h2]; rfl
end Go.Sh.D
set_option linter.unusedVariables false
set_option linter.unusedSimpArgs false
namespace Go.Sh.D
open Go Data
/-! ## The order of libraries for a digest -/
def orderP (l : List Int) (d : Int) : List Int := (N.uniq l).mergeSort (leP d)

theorem compactUpTo_mem (zs : List Int) (x : Int) : ∀ m, m ≤ zs.length → (x ∈ Lib.compactUpTo zs.toArray m ↔ ∃ j, j < m ∧ zs[j]? = some x)
  | 0, _ => by simp [Lib.compactUpTo]
  | m + 1, hm => by
    have e : ∀ k, k < zs.length → zs.toArray[k]! = zs[k]! := fun k hk => by simp
    have g : ∀ k (hk : k < zs.length), zs[k]! = zs[k] := fun k hk => getElem!_pos zs k hk
    rw [Lib.compactUpTo_succ, List.mem_append, compactUpTo_mem zs x m (by omega)]
    constructor
    · rintro (⟨j, hj, h⟩ | h)
      · exact ⟨j, by omega, h⟩
      · split at h
        · simp only [List.mem_singleton] at h
          exact ⟨m, by omega, by rw [h, e m (by omega), g m (by omega)]; exact List.getElem?_eq_getElem _⟩
        · cases h
    · rintro ⟨j, hj, h⟩
      by_cases hjm : j < m
      · exact .inl ⟨j, hjm, h⟩
      · obtain rfl : j = m := by omega
        have hx : zs[j]'(by omega) = x := by
          have := List.getElem?_eq_getElem (l := zs) (i := j) (by omega)
          rw [this] at h; simpa using h
        by_cases hk : Lib.keeps zs.toArray j = true
        · right
          rw [if_pos hk, e j (by omega), g j (by omega), hx]; simp
        · left
          unfold Lib.keeps at hk
          simp only [decide_eq_true_eq, not_or, Classical.not_not] at hk
          refine ⟨j - 1, by omega, ?_⟩
          have h2 := hk.2
          rw [e j (by omega), e (j - 1) (by omega), g j (by omega), g (j - 1) (by omega), hx] at h2
          rw [h2]; exact List.getElem?_eq_getElem _
theorem compact_mem (zs : List Int) (x : Int) : x ∈ Lib.compact zs ↔ x ∈ zs := by
  unfold Lib.compact
  rw [compactUpTo_mem zs x _ (Nat.le_refl _), List.mem_iff_getElem?]
  constructor
  · rintro ⟨j, _, h⟩; exact ⟨j, h⟩
  · rintro ⟨j, h⟩; exact ⟨j, (List.getElem?_eq_some_iff.1 h).1, h⟩

theorem uniq_perm (l : List Int) : ∀ x, x ∈ N.uniq l ↔ x ∈ l := fun x => by
  unfold N.uniq
  rw [compact_mem, (List.mergeSort_perm _ _).mem_iff]

theorem asc_Qp (d : Int) {l : List Int} (h : l.Pairwise fun x y => x < y) : l.Pairwise (Qp (leP d) (ltP d)) := h.imp fun {x y} hxy => by
  simp only [Qp, leP, ltP, decide_eq_true_eq]
  omega

theorem uniq_len (l : List Int) : (N.uniq l).length ≤ l.length := by
  unfold N.uniq
  exact Nat.le_trans (Lib.compact_length_le _) (by rw [List.length_mergeSort]; exact Nat.le_refl _)

theorem orderP_len (l : List Int) (d : Int) : (orderP l d).length ≤ l.length := by
  unfold orderP
  rw [List.length_mergeSort]
  exact uniq_len l

theorem impl_OrderFor_is {l : List Int} (h : l.length ≤ 1048576) (d : Int) : impl_OrderFor l d = some (orderP l d) := by
  unfold impl_OrderFor impl_sorted slices_SortStableFunc_int_impl_OrderFor_1
  rw [nite_pos (by rw [len_d]; omega), bind_some', len_d, stable_is d _ (by have := uniq_len l; omega) (asc_Qp d (uniq_asc l)), bind_some', bind_some']
  rfl

theorem orderP_mem (l : List Int) (d : Int) (x : Int) : x ∈ orderP l d ↔ x ∈ l := by
  unfold orderP
  rw [(List.mergeSort_perm _ _).mem_iff, uniq_perm]
theorem orderP_nodup (l : List Int) (d : Int) : (orderP l d).Nodup := by
  unfold orderP
  rw [(List.mergeSort_perm _ _).nodup_iff]
  exact (uniq_asc l).imp fun h => by omega

theorem cut_lo (l : List Int) (k : Nat) : N.cut l 0 (k : Int) = l.take k := by simp [N.cut]
theorem cut_hi (l : List Int) (k : Nat) : N.cut l (k : Int) ((l.length : Nat) : Int) = l.drop k := by simp [N.cut]

end Go.Sh.D
set_option linter.unusedVariables false
set_option linter.unusedSimpArgs false
namespace Go.Sh.D
open Go Data
end Go.Sh.D
set_option linter.unusedVariables false
set_option linter.unusedSimpArgs false
namespace Go.Sh.D
open Go Data
theorem up_unit {R : Type} (n : Nat) (r : R) {step : Int → Option (Int ⊕ R)} (hstep : ∀ k < n, step (k : Int) = some (.inl ((k + 1 : Nat) : Int))) (hend : step (n : Int) = some (.inr r)) : loopF step 0 = some r :=
  loop_upto n (fun k (_ : Unit) => (k : Int)) (fun _ => ()) r hstep hend

end Go.Sh.D
set_option linter.unusedVariables false
set_option linter.unusedSimpArgs false
namespace Go.Sh.D
open Go Data
theorem copy_step (l : List Library) (k : Nat) (hk : k < l.length) : N.app (l.take k) [((l[k]).1, (l[k]).2.1, (l[k]).2.2.1, (l[k]).2.2.2)] = l.take (k + 1) := (List.take_succ_eq_append_getElem hk).symm

theorem impl_copyLibraries_is {l : List Library} (h : ok l) : impl_copyLibraries l = some l := by
  have hl := h.1
  unfold impl_copyLibraries
  refine (loop_upto l.length (fun (k : Nat) (o : List Library) => (o, (k : Int))) (fun k => l.take k) l (fun k hk => ?_) ?_ :)
  · have hd := (h.2 l[k] (List.getElem_mem hk)).2.1.1
    simp only [lt_tt (show (k : Int) < N.len l by rw [len_d]; omega), cond_true, rd_at l k hk, next_id hk (by omega), slices_Clone_int_is (l := (l[k]).2.1) (by omega), bind_some', copy_step l k hk]
    rw [nite_pos (by omega), nite_pos (by rw [len_d]; omega), nite_pos (fitsN (by simp; omega) (by omega))]
  · simp only [len_d, lt_self, cond_false, List.take_length]

/-! ## A digest set in -/
theorem takeWhile_len {xs : List Int} {d : Int} {k : Nat} (hk : k ≤ xs.length) (h1 : ∀ j, j < k → xs.getD j 0 < d) (h2 : k = xs.length ∨ ¬ xs.getD k 0 < d) : (xs.takeWhile fun x => decide (x < d)).length = k := by
  induction xs generalizing k with
  | nil => simp at hk; subst hk; rfl
  | cons x xs ih =>
    cases k with
    | zero =>
      rcases h2 with h2 | h2
      · simp at h2
      · simp only [List.getD_cons_zero] at h2
        rw [List.takeWhile_cons_of_neg (by simpa using h2)]; rfl
    | succ k =>
      have h0 := h1 0 (by omega)
      simp only [List.getD_cons_zero] at h0
      rw [List.takeWhile_cons_of_pos (by simpa using h0), List.length_cons, ih (k := k) (by simpa using hk) (fun j hj => by have := h1 (j + 1) (by omega); simpa using this) (by
        rcases h2 with h2 | h2
        · left; simpa using h2
        · right; simpa using h2)]

theorem withD_at {xs : List Int} {d : Int} {k : Nat} (hk : k ≤ xs.length) (h1 : ∀ j, j < k → xs.getD j 0 < d) (h2 : k = xs.length ∨ ¬ xs.getD k 0 < d) : N.withD xs d = if xs[k]? = some d then xs else xs.take k ++ d :: xs.drop k := by
  unfold N.withD
  rw [takeWhile_len hk h1 h2]

theorem withD_len (xs : List Int) (d : Int) : (N.withD xs d).length ≤ xs.length + 1 := by
  unfold N.withD
  split
  · omega
  · simp; omega

theorem withD_mem (xs : List Int) (d : Int) (x : Int) : x ∈ N.withD xs d ↔ x = d ∨ x ∈ xs := by
  unfold N.withD
  split
  · rename_i h
    have := List.mem_of_getElem? h
    constructor
    · exact .inr
    · rintro (rfl | h)
      · exact this
      · exact h
  · generalize (xs.takeWhile fun x => decide (x < d)).length = k
    have e : x ∈ xs ↔ x ∈ xs.take k ∨ x ∈ xs.drop k := by
      rw [← List.mem_append, List.take_append_drop]
    rw [List.mem_append, List.mem_cons, e]
    constructor
    · rintro (h | h | h)
      · exact .inr (.inl h)
      · exact .inl h
      · exact .inr (.inr h)
    · rintro (h | h | h)
      · exact .inr (.inl h)
      · exact .inl h
      · exact .inr (.inr h)

theorem impl_withDigest_is {xs : List Int} (h : xs.length ≤ 1048576) (d : Int) : impl_withDigest xs d = some (N.withD xs d) := by
  unfold impl_withDigest
  rw [nite_pos (by rw [len_d]; omega)]

theorem spec_l9Put_is {xs : List Int} (h : xs.length ≤ 1048576) (d : Int) : spec_l9Put xs d = some (N.withD xs d) := by
  unfold spec_l9Put
  refine (fun (key : ∃ r, loopF _ _ = some r ∧ r = N.withD xs d) => key.elim fun r h => h.2 ▸ h.1) (loop_meas (fun s => ∃ k : Nat, s = (k : Int) ∧ k ≤ xs.length ∧ ∀ j, j < k → xs.getD j 0 < d) (fun s => xs.length - s.toNat)
    (fun r => r = N.withD xs d) (fun s hI => ?_) 0 ⟨0, rfl, by omega, fun j hj => absurd hj (Nat.not_lt_zero _)⟩)
  obtain ⟨k, rfl, hk, hlow⟩ := hI
  by_cases hlt : k < xs.length
  · have i1 : (k : Int) < (xs.length : Int) := by omega
    have hg : xs.getD k 0 = xs[k] := by simp [hlt]
    by_cases hd : xs[k] < d
    · left
      refine ⟨((k + 1 : Nat) : Int), ?_, ⟨k + 1, rfl, by omega, fun j hj => ?_⟩, by simp only [Int.toNat_natCast]; omega⟩
      · simp only [len_d, lt_tt i1, cond_true, rd_at xs k hlt, lt_tt hd, next_id hlt (by omega)]
        rw [nite_pos (by omega), nite_pos (by omega)]
      · by_cases hjk : j < k
        · exact hlow j hjk
        · obtain rfl : j = k := by omega
          rw [hg]; exact hd
    · right
      have hw := withD_at hk hlow (.inr (by rw [hg]; exact hd))
      rw [List.getElem?_eq_getElem hlt] at hw
      have lc1 : N.cut xs 0 (k : Int) = xs.take k := cut_lo xs k
      have lc2 : N.cut xs (k : Int) (xs.length : Int) = xs.drop k := cut_hi xs k
      by_cases he : xs[k] = d
      · rw [if_pos (by rw [he])] at hw
        refine ⟨xs, ?_, hw.symm⟩
        simp only [len_d, lt_tt i1, cond_true, rd_at xs k hlt, lt_ff hd, cond_false, eq_tt he]
        rw [nite_pos (by omega), nite_pos (by omega), nite_pos (by omega), nite_pos (by omega), nite_pos (fits8 (by simp; omega))]
        rfl
      · rw [if_neg (by simpa using he)] at hw
        refine ⟨xs.take k ++ d :: xs.drop k, ?_, hw.symm⟩
        simp only [len_d, lt_tt i1, cond_true, rd_at xs k hlt, lt_ff hd, cond_false, eq_ff he, lc1, lc2, N.app, List.nil_append]
        rw [nite_pos (by omega), nite_pos (by omega), nite_pos (by omega), nite_pos (by omega), nite_pos (by omega), nite_pos (by omega), nite_pos (fits8 (by simp; omega)), nite_pos (fits8 (by simp; omega)), nite_pos (by omega), nite_pos (by omega), nite_pos (by omega), nite_pos (fits8 (by simp; omega))]
        simp
  · right
    obtain rfl : k = xs.length := by omega
    have hw := withD_at hk hlow (.inl rfl)
    rw [if_neg (by simp)] at hw
    have lc1 : N.cut xs 0 (xs.length : Int) = xs := by simp [N.cut]
    have lc2 : N.cut xs (xs.length : Int) (xs.length : Int) = [] := by simp [N.cut]
    refine ⟨xs ++ [d], ?_, by rw [hw]; simp⟩
    simp only [len_d, lt_self, cond_false, lc1, lc2, N.app, List.nil_append]
    rw [nite_pos (by omega), nite_pos (by omega), nite_pos (fits8 (by simp; omega)), nite_pos (fits8 (by simp; omega)), nite_pos (by omega), nite_pos (by omega), nite_pos (by omega), nite_pos (fits8 (by simp; omega))]
    simp
end Go.Sh.D
