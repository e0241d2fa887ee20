/- The native forms of the functions that FnExactProvenBy reaches, and their pure laws: FnExactProvenBy is true for every input of bounded parts. No condition beyond the bounds that every input keeps. -/
import Derived.Test.YtekclbjiifiahaaSh9
set_option linter.unusedVariables false
set_option maxRecDepth 100000
set_option maxHeartbeats 4000000
namespace Go.Sh
open Go
namespace N
def nostr : ByteArray := ByteArray.empty
def lit (l : List UInt8) : ByteArray := ⟨l.toArray⟩
def let_ {α R : Type} (x : α) (f : α → Option R) : Option R := f x
end N
namespace D
abbrev Statement : Type := Int × Int × Int × Int
noncomputable def laws_szStatementS (x0 : List Statement) (x1 : Int) : Option (Int) :=
  N.cond (N.lt (N.sub .i64 x1 (N.len x0)) 0)
    (some (-1))
    (some (N.sub .i64 x1 (N.len x0)))

noncomputable def laws_toIntS (x0 : List Int) : Option (List Int) :=
  N.ite (0 ≤ N.len x0)
    (
      N.ite (N.room (N.len x0) 8)
        (
          loopF (fun (s1 : Int × List Int) =>
              N.cond (N.lt s1.1 (N.len x0))
                (
                  N.ite (0 ≤ s1.1)
                    (
                      N.ite (s1.1 < N.len x0)
                        (
                          N.ite (0 ≤ s1.1)
                            (
                              N.ite (s1.1 < N.len s1.2)
                                (some (.inl (N.add .i64 s1.1 1, N.set s1.2 s1.1 (N.rd x0 s1.1 0))))
                                none)
                            none)
                        none)
                    none)
                (some (.inr s1.2)))
            (0, N.rep (N.len x0) (0 : Int)))
        none)
    none

noncomputable def laws_toStatement (x0 : Statement) : Option (Statement) :=
  some x0

noncomputable def laws_toStatementS (x0 : List Statement) : Option (List Statement) :=
  N.ite (0 ≤ N.len x0)
    (
      N.ite (N.room (N.len x0) 32)
        (
          loopF (fun (s1 : Int × List Statement) =>
              N.cond (N.lt s1.1 (N.len x0))
                (
                  N.ite (0 ≤ s1.1)
                    (
                      N.ite (s1.1 < N.len x0)
                        (
                          N.bind (laws_toStatement (N.rd x0 s1.1 (0, 0, 0, 0))) fun r1 =>
                            N.ite (0 ≤ s1.1)
                              (
                                N.ite (s1.1 < N.len s1.2)
                                  (some (.inl (N.add .i64 s1.1 1, N.set s1.2 s1.1 r1)))
                                  none)
                              none)
                        none)
                    none)
                (some (.inr s1.2)))
            (0, N.rep (N.len x0) ((0, 0, 0, 0) : Statement)))
        none)
    none

noncomputable def spec_l1In (x0 : Int) (x1 : Int) (x2 : Int) : Option (Bool) :=
  N.cond (N.ge x0 x1)
    (some (N.le x0 x2))
    (some false)

noncomputable def spec_IsValidKey (x0 : Int) : Option (Bool) :=
  N.bind (spec_l1In x0 1 2147483646) fun r1 =>
    some r1

noncomputable def spec_Mod (x0 : Int) (x1 : Int) : Option (Int) :=
  N.bind (spec_l1In x1 1 1000000000000) fun r1 =>
    N.cond (N.not r1)
      (some 0)
      (
        N.ite (x1 = 0)
          none
          (
            N.ite (x1 = 0)
              none
              (some (N.rem (N.add .i64 (N.rem x0 x1) x1) x1))))

noncomputable def spec_Hash (x0 : List Int) : Option (Int) :=
  loopF (fun (s1 : Int × Int) =>
      N.cond (N.lt s1.2 (N.len x0))
        (
          N.ite (0 ≤ s1.2)
            (
              N.ite (s1.2 < N.len x0)
                (
                  N.bind (spec_Mod (N.rd x0 s1.2 0) 2147483647) fun r1 =>
                    some (.inl (N.rem (N.add .i64 (N.add .i64 (N.mul .i64 s1.1 1000003) r1) 13) 2147483647, N.add .i64 s1.2 1)))
                none)
            none)
        (some (.inr s1.1)))
    (11, 0)

noncomputable def spec_KeyedHash (x0 : Int) (x1 : List Int) : Option (Int) :=
  N.ite (N.fits [x0] x1 8)
    (
      N.ite (N.fits (N.app [x0] x1) [x0] 8)
        (
          N.bind (spec_Hash (N.app (N.app [x0] x1) [x0])) fun r1 =>
            some r1)
        none)
    none

noncomputable def spec_SealStatement (x0 : Int) (x1 : Statement) : Option (Statement) :=
  N.bind (spec_IsValidKey x0) fun r1 =>
    N.cond r1
      (
        N.bind (spec_KeyedHash x0 [x1.1, x1.2.1, x1.2.2.1]) fun r2 =>
          some (x1.1, x1.2.1, x1.2.2.1, r2))
      (some (x1.1, x1.2.1, x1.2.2.1, 0))

noncomputable def spec_IsStatement (x0 : List Int) (x1 : Statement) : Option (Bool) :=
  N.cond (N.gt (N.len x0) 7)
    (some false)
    (
      N.bind (spec_l1In x1.1 0 (N.sub .i64 (N.len x0) 1)) fun r1 =>
        N.cond (N.not r1)
          (some false)
          (
            N.bind (spec_l1In x1.2.2.1 0 2000) fun r2 =>
              N.cond (N.not r2)
                (some false)
                (
                  N.ite (0 ≤ x1.1)
                    (
                      N.ite (x1.1 < N.len x0)
                        (
                          N.bind (spec_IsValidKey (N.rd x0 x1.1 0)) fun r3 =>
                            N.cond (N.not r3)
                              (some false)
                              (
                                N.ite (0 ≤ x1.1)
                                  (
                                    N.ite (x1.1 < N.len x0)
                                      (
                                        N.bind (spec_SealStatement (N.rd x0 x1.1 0) x1) fun r4 =>
                                          some (N.eq r4.2.2.2 x1.2.2.2))
                                      none)
                                  none))
                        none)
                    none)))

noncomputable def spec_FirstSeen (x0 : List Int) (x1 : List Statement) (x2 : Int) : Option (List Int) :=
  loopF (fun (s1 : List Int × Int) =>
      N.cond (N.lt s1.2 (N.len x0))
        (
          N.ite (N.fits s1.1 [(-1)] 8)
            (some (.inl (N.app s1.1 [(-1)], N.add .i64 s1.2 1)))
            none)
        (
          Option.map Sum.inr
            (
              loopF (fun (s2 : Int × List Int) =>
                  N.cond (N.lt s2.1 (N.len x1))
                    (
                      N.ite (0 ≤ s2.1)
                        (
                          N.ite (s2.1 < N.len x1)
                            (
                              N.bind (spec_IsStatement x0 (N.rd x1 s2.1 (0, 0, 0, 0))) fun r1 =>
                                N.cond (N.not r1)
                                  (some (.inl (N.add .i64 s2.1 1, s2.2)))
                                  (
                                    N.ite (0 ≤ s2.1)
                                      (
                                        N.ite (s2.1 < N.len x1)
                                          (
                                            N.cond (N.ne ((N.rd x1 s2.1 (0, 0, 0, 0)).2.1) x2)
                                              (some (.inl (N.add .i64 s2.1 1, s2.2)))
                                              (
                                                N.ite (0 ≤ s2.1)
                                                  (
                                                    N.ite (s2.1 < N.len x1)
                                                      (
                                                        N.ite (0 ≤ (N.rd x1 s2.1 (0, 0, 0, 0)).1)
                                                          (
                                                            N.ite ((N.rd x1 s2.1 (0, 0, 0, 0)).1 < N.len s2.2)
                                                              (
                                                                N.cond (N.lt (N.rd s2.2 ((N.rd x1 s2.1 (0, 0, 0, 0)).1) 0) 0)
                                                                  (
                                                                    N.ite (0 ≤ s2.1)
                                                                      (
                                                                        N.ite (s2.1 < N.len x1)
                                                                          (
                                                                            N.ite (0 ≤ (N.rd x1 s2.1 (0, 0, 0, 0)).1)
                                                                              (
                                                                                N.ite ((N.rd x1 s2.1 (0, 0, 0, 0)).1 < N.len s2.2)
                                                                                  (some (.inl (N.add .i64 s2.1 1, N.set s2.2 ((N.rd x1 s2.1 (0, 0, 0, 0)).1) ((N.rd x1 s2.1 (0, 0, 0, 0)).2.2.1))))
                                                                                  none)
                                                                              none)
                                                                          none)
                                                                      none)
                                                                  (
                                                                    N.ite (0 ≤ s2.1)
                                                                      (
                                                                        N.ite (s2.1 < N.len x1)
                                                                          (
                                                                            N.ite (0 ≤ (N.rd x1 s2.1 (0, 0, 0, 0)).1)
                                                                              (
                                                                                N.ite ((N.rd x1 s2.1 (0, 0, 0, 0)).1 < N.len s2.2)
                                                                                  (
                                                                                    N.cond (N.lt ((N.rd x1 s2.1 (0, 0, 0, 0)).2.2.1) (N.rd s2.2 ((N.rd x1 s2.1 (0, 0, 0, 0)).1) 0))
                                                                                      (
                                                                                        N.ite (0 ≤ s2.1)
                                                                                          (
                                                                                            N.ite (s2.1 < N.len x1)
                                                                                              (
                                                                                                N.ite (0 ≤ (N.rd x1 s2.1 (0, 0, 0, 0)).1)
                                                                                                  (
                                                                                                    N.ite ((N.rd x1 s2.1 (0, 0, 0, 0)).1 < N.len s2.2)
                                                                                                      (some (.inl (N.add .i64 s2.1 1, N.set s2.2 ((N.rd x1 s2.1 (0, 0, 0, 0)).1) ((N.rd x1 s2.1 (0, 0, 0, 0)).2.2.1))))
                                                                                                      none)
                                                                                                  none)
                                                                                              none)
                                                                                          none)
                                                                                      (some (.inl (N.add .i64 s2.1 1, s2.2))))
                                                                                  none)
                                                                              none)
                                                                          none)
                                                                      none))
                                                              none)
                                                          none)
                                                      none)
                                                  none))
                                          none)
                                      none))
                            none)
                        none)
                    (some (.inr s2.2)))
                (0, s1.1))))
    ([], 0)

noncomputable def spec_ProvenBy (x0 : List Int) (x1 : List Statement) (x2 : Int) (x3 : Int) : Option (Int) :=
  N.bind (spec_FirstSeen x0 x1 x2) fun r1 =>
    loopF (fun (s1 : List Int × Int) =>
        N.cond (N.lt s1.2 (N.len r1))
          (
            N.ite (0 ≤ s1.2)
              (
                N.ite (s1.2 < N.len r1)
                  (
                    N.cond (N.lt (N.rd r1 s1.2 0) 0)
                      (some (.inl (s1.1, N.add .i64 s1.2 1)))
                      (
                        loopF (fun (s2 : Int) =>
                            N.cond (N.gt s2 0)
                              (
                                N.ite (0 ≤ N.sub .i64 s2 1)
                                  (
                                    N.ite (N.sub .i64 s2 1 < N.len s1.1)
                                      (
                                        N.ite (0 ≤ s1.2)
                                          (
                                            N.ite (s1.2 < N.len r1)
                                              (
                                                N.cond (N.gt (N.rd s1.1 (N.sub .i64 s2 1) 0) (N.rd r1 s1.2 0))
                                                  (some (.inl (N.sub .i64 s2 1)))
                                                  (
                                                    Option.map Sum.inr
                                                      (
                                                        N.ite (0 ≤ s2)
                                                          (
                                                            N.ite (s2 ≤ N.len s1.1)
                                                              (
                                                                N.ite (N.fits [] (N.cut s1.1 0 s2) 8)
                                                                  (
                                                                    N.ite (0 ≤ s1.2)
                                                                      (
                                                                        N.ite (s1.2 < N.len r1)
                                                                          (
                                                                            N.ite (N.fits (N.app [] (N.cut s1.1 0 s2)) [N.rd r1 s1.2 0] 8)
                                                                              (
                                                                                N.ite (0 ≤ s2)
                                                                                  (
                                                                                    N.ite (s2 ≤ N.len s1.1)
                                                                                      (
                                                                                        N.ite (N.len s1.1 ≤ N.len s1.1)
                                                                                          (
                                                                                            N.ite (N.fits (N.app (N.app [] (N.cut s1.1 0 s2)) [N.rd r1 s1.2 0]) (N.cut s1.1 s2 (N.len s1.1)) 8)
                                                                                              (some (.inl (N.app (N.app (N.app [] (N.cut s1.1 0 s2)) [N.rd r1 s1.2 0]) (N.cut s1.1 s2 (N.len s1.1)), N.add .i64 s1.2 1)))
                                                                                              none)
                                                                                          none)
                                                                                      none)
                                                                                  none)
                                                                              none)
                                                                          none)
                                                                      none)
                                                                  none)
                                                              none)
                                                          none)))
                                              none)
                                          none)
                                      none)
                                  none)
                              (
                                Option.map Sum.inr
                                  (
                                    N.ite (0 ≤ s2)
                                      (
                                        N.ite (s2 ≤ N.len s1.1)
                                          (
                                            N.ite (N.fits [] (N.cut s1.1 0 s2) 8)
                                              (
                                                N.ite (0 ≤ s1.2)
                                                  (
                                                    N.ite (s1.2 < N.len r1)
                                                      (
                                                        N.ite (N.fits (N.app [] (N.cut s1.1 0 s2)) [N.rd r1 s1.2 0] 8)
                                                          (
                                                            N.ite (0 ≤ s2)
                                                              (
                                                                N.ite (s2 ≤ N.len s1.1)
                                                                  (
                                                                    N.ite (N.len s1.1 ≤ N.len s1.1)
                                                                      (
                                                                        N.ite (N.fits (N.app (N.app [] (N.cut s1.1 0 s2)) [N.rd r1 s1.2 0]) (N.cut s1.1 s2 (N.len s1.1)) 8)
                                                                          (some (.inl (N.app (N.app (N.app [] (N.cut s1.1 0 s2)) [N.rd r1 s1.2 0]) (N.cut s1.1 s2 (N.len s1.1)), N.add .i64 s1.2 1)))
                                                                          none)
                                                                      none)
                                                                  none)
                                                              none)
                                                          none)
                                                      none)
                                                  none)
                                              none)
                                          none)
                                      none)))
                          (N.len s1.1)))
                  none)
              none)
          (
            Option.map Sum.inr
              (
                N.bind (spec_l1In x3 0 (N.sub .i64 (N.len s1.1) 1)) fun r2 =>
                  N.cond (N.not r2)
                    (some (-1))
                    (
                      N.ite (0 ≤ x3)
                        (
                          N.ite (x3 < N.len s1.1)
                            (some (N.rd s1.1 x3 0))
                            none)
                        none))))
      ([], 0)

noncomputable def bits_Mul64 (x0 : Int) (x1 : Int) : Option (Int × Int) :=
  some (N.add .u64 (N.add .u64 (N.mul .u64 (N.shr .u64 x0 32) (N.shr .u64 x1 32)) (N.shr .u64 (N.add .u64 (N.mul .u64 (N.shr .u64 x0 32) (N.and .u64 x1 4294967295)) (N.shr .u64 (N.mul .u64 (N.and .u64 x0 4294967295) (N.and .u64 x1 4294967295)) 32)) 32)) (N.shr .u64 (N.add .u64 (N.and .u64 (N.add .u64 (N.mul .u64 (N.shr .u64 x0 32) (N.and .u64 x1 4294967295)) (N.shr .u64 (N.mul .u64 (N.and .u64 x0 4294967295) (N.and .u64 x1 4294967295)) 32)) 4294967295) (N.mul .u64 (N.and .u64 x0 4294967295) (N.shr .u64 x1 32))) 32), N.mul .u64 x0 x1)

noncomputable def bits_Mul (x0 : Int) (x1 : Int) : Option (Int × Int) :=
  N.bind (bits_Mul64 x0 x1) fun r1 =>
    some r1

noncomputable def slices_Repeat_int (x0 : List Int) (x1 : Int) : Option (List Int) :=
  N.cond (N.lt x1 0)
    none
    (
      N.bind (bits_Mul (N.conv .u64 (N.len x0)) (N.conv .u64 x1)) fun r1 =>
        N.cond (N.gt r1.1 0)
          none
          (
            N.cond (N.gt r1.2 9223372036854775807)
              none
              (
                N.ite (0 ≤ N.conv .i64 r1.2)
                  (
                    N.ite (N.room (N.conv .i64 r1.2) 8)
                      (
                        loopF (fun (s1 : Int × List Int) =>
                            N.cond (N.lt s1.1 (N.len s1.2))
                              (
                                N.ite (0 ≤ s1.1)
                                  (
                                    N.ite (s1.1 ≤ N.len s1.2)
                                      (
                                        N.ite (N.len s1.2 ≤ N.len s1.2)
                                          (
                                            N.ite (0 ≤ s1.1)
                                              (
                                                N.ite (s1.1 ≤ N.len s1.2)
                                                  (some (.inl (N.add .i64 s1.1 (N.min (N.diff (N.len s1.2) s1.1) (N.len (N.cut s1.2 0 s1.1))), N.cpy s1.2 s1.1 (N.diff (N.len s1.2) s1.1) (N.cut s1.2 0 s1.1))))
                                                  none)
                                              none)
                                          none)
                                      none)
                                  none)
                              (some (.inr s1.2)))
                          (N.min (N.len (N.rep (N.conv .i64 r1.2) (0 : Int))) (N.len x0), N.cpy (N.rep (N.conv .i64 r1.2) (0 : Int)) 0 (N.len (N.rep (N.conv .i64 r1.2) (0 : Int))) x0))
                      none)
                  none)))

noncomputable def impl_at (x0 : Int) (x1 : Int) : Option (Bool) :=
  N.cond (N.ge x0 0)
    (some (N.lt x0 x1))
    (some false)

noncomputable def impl_InRange (x0 : Int) (x1 : Int) (x2 : Int) : Option (Bool) :=
  N.cond (N.le x1 x0)
    (some (N.le x0 x2))
    (some false)

noncomputable def impl_IsValidKey (x0 : Int) : Option (Bool) :=
  N.bind (impl_InRange x0 1 2147483646) fun r1 =>
    some r1

noncomputable def impl_Mod (x0 : Int) (x1 : Int) : Option (Int) :=
  N.bind (impl_InRange x1 1 1000000000000) fun r1 =>
    N.cond (N.not r1)
      (some 0)
      (
        N.ite (x1 = 0)
          none
          (
            N.ite (x1 = 0)
              none
              (some (N.rem (N.add .i64 (N.rem x0 x1) x1) x1))))

noncomputable def impl_Hash (x0 : List Int) : Option (Int) :=
  loopF (fun (s1 : Int × Int) =>
      N.cond (N.lt s1.2 (N.len x0))
        (
          N.ite (0 ≤ s1.2)
            (
              N.ite (s1.2 < N.len x0)
                (
                  N.bind (impl_Mod (N.rd x0 s1.2 0) 2147483647) fun r1 =>
                    some (.inl (N.rem (N.add .i64 (N.add .i64 (N.mul .i64 s1.1 1000003) r1) 13) 2147483647, N.add .i64 s1.2 1)))
                none)
            none)
        (some (.inr s1.1)))
    (11, 0)

noncomputable def impl_KeyedHash (x0 : Int) (x1 : List Int) : Option (Int) :=
  N.ite (N.fits [x0] x1 8)
    (
      N.ite (N.fits (N.app [x0] x1) [x0] 8)
        (
          N.bind (impl_Hash (N.app (N.app [x0] x1) [x0])) fun r1 =>
            some r1)
        none)
    none

noncomputable def impl_SealStatement (x0 : Int) (x1 : Statement) : Option (Statement) :=
  N.bind (impl_IsValidKey x0) fun r1 =>
    N.cond r1
      (
        N.bind (impl_KeyedHash x0 [x1.1, x1.2.1, x1.2.2.1]) fun r2 =>
          some (x1.1, x1.2.1, x1.2.2.1, r2))
      (some (x1.1, x1.2.1, x1.2.2.1, 0))

noncomputable def impl_IsStatement (x0 : List Int) (x1 : Statement) : Option (Bool) :=
  N.cond (N.le (N.len x0) 7)
    (
      N.bind (impl_at x1.1 (N.len x0)) fun r1 =>
        N.cond r1
          (
            N.ite (0 ≤ x1.1)
              (
                N.ite (x1.1 < N.len x0)
                  (
                    N.bind (impl_IsValidKey (N.rd x0 x1.1 0)) fun r2 =>
                      N.cond r2
                        (
                          N.bind (impl_InRange x1.2.2.1 0 2000) fun r3 =>
                            N.cond r3
                              (
                                N.ite (0 ≤ x1.1)
                                  (
                                    N.ite (x1.1 < N.len x0)
                                      (
                                        N.bind (impl_SealStatement (N.rd x0 x1.1 0) x1) fun r4 =>
                                          some (N.both (N.eq r4.1 x1.1) (N.both (N.eq r4.2.1 x1.2.1) (N.both (N.eq r4.2.2.1 x1.2.2.1) (N.eq r4.2.2.2 x1.2.2.2)))))
                                      none)
                                  none)
                              (some false))
                        (some false))
                  none)
              none)
          (some false))
    (some false)

noncomputable def impl_FirstSeen (x0 : List Int) (x1 : List Statement) (x2 : Int) : Option (List Int) :=
  N.bind (slices_Repeat_int [(-1)] (N.len x0)) fun r1 =>
    loopF (fun (s1 : Int × List Int) =>
        N.cond (N.lt s1.1 (N.len x1))
          (
            N.ite (0 ≤ s1.1)
              (
                N.ite (s1.1 < N.len x1)
                  (
                    N.cond (N.eq ((N.rd x1 s1.1 (0, 0, 0, 0)).2.1) x2)
                      (
                        N.bind (impl_IsStatement x0 (N.rd x1 s1.1 (0, 0, 0, 0))) fun r2 =>
                          N.cond r2
                            (
                              N.ite (0 ≤ (N.rd x1 s1.1 (0, 0, 0, 0)).1)
                                (
                                  N.ite ((N.rd x1 s1.1 (0, 0, 0, 0)).1 < N.len s1.2)
                                    (
                                      N.cond (N.lt (N.rd s1.2 ((N.rd x1 s1.1 (0, 0, 0, 0)).1) 0) 0)
                                        (
                                          N.ite (0 ≤ (N.rd x1 s1.1 (0, 0, 0, 0)).1)
                                            (
                                              N.ite ((N.rd x1 s1.1 (0, 0, 0, 0)).1 < N.len s1.2)
                                                (some (.inl (N.add .i64 s1.1 1, N.set s1.2 ((N.rd x1 s1.1 (0, 0, 0, 0)).1) ((N.rd x1 s1.1 (0, 0, 0, 0)).2.2.1))))
                                                none)
                                            none)
                                        (
                                          N.ite (0 ≤ (N.rd x1 s1.1 (0, 0, 0, 0)).1)
                                            (
                                              N.ite ((N.rd x1 s1.1 (0, 0, 0, 0)).1 < N.len s1.2)
                                                (
                                                  N.cond (N.lt ((N.rd x1 s1.1 (0, 0, 0, 0)).2.2.1) (N.rd s1.2 ((N.rd x1 s1.1 (0, 0, 0, 0)).1) 0))
                                                    (
                                                      N.ite (0 ≤ (N.rd x1 s1.1 (0, 0, 0, 0)).1)
                                                        (
                                                          N.ite ((N.rd x1 s1.1 (0, 0, 0, 0)).1 < N.len s1.2)
                                                            (some (.inl (N.add .i64 s1.1 1, N.set s1.2 ((N.rd x1 s1.1 (0, 0, 0, 0)).1) ((N.rd x1 s1.1 (0, 0, 0, 0)).2.2.1))))
                                                            none)
                                                        none)
                                                    (some (.inl (N.add .i64 s1.1 1, s1.2))))
                                                none)
                                            none))
                                    none)
                                none)
                            (some (.inl (N.add .i64 s1.1 1, s1.2))))
                      (some (.inl (N.add .i64 s1.1 1, s1.2))))
                  none)
              none)
          (some (.inr s1.2)))
      (0, r1)

noncomputable def impl_ProvenBy (x0 : List Int) (x1 : List Statement) (x2 : Int) (x3 : Int) : Option (Int) :=
  N.bind (impl_FirstSeen x0 x1 x2) fun r1 =>
    N.ite (N.len r1 * 8 ≤ 140737488355328)
      (some (N.provenAt r1 x3))
      none

noncomputable def laws_eqIntS (x0 : List Int) (x1 : List Int) : Option (Bool) :=
  N.cond (N.ne (N.len x0) (N.len x1))
    (some false)
    (
      loopF (fun (s1 : Int) =>
          N.cond (N.lt s1 (N.len x0))
            (
              N.ite (0 ≤ s1)
                (
                  N.ite (s1 < N.len x0)
                    (
                      N.ite (0 ≤ s1)
                        (
                          N.ite (s1 < N.len x1)
                            (
                              N.cond (N.ne (N.rd x0 s1 0) (N.rd x1 s1 0))
                                (some (.inr false))
                                (some (.inl (N.add .i64 s1 1))))
                            none)
                        none)
                    none)
                none)
            (some (.inr true)))
        0)

noncomputable def laws_eqStatement (x0 : Statement) (x1 : Statement) : Option (Bool) :=
  N.cond (N.ne x0.1 x1.1)
    (some false)
    (
      N.cond (N.ne x0.2.1 x1.2.1)
        (some false)
        (
          N.cond (N.ne x0.2.2.1 x1.2.2.1)
            (some false)
            (
              N.cond (N.ne x0.2.2.2 x1.2.2.2)
                (some false)
                (some true))))

noncomputable def laws_eqStatementS (x0 : List Statement) (x1 : List Statement) : Option (Bool) :=
  N.cond (N.ne (N.len x0) (N.len x1))
    (some false)
    (
      loopF (fun (s1 : Int) =>
          N.cond (N.lt s1 (N.len x0))
            (
              N.ite (0 ≤ s1)
                (
                  N.ite (s1 < N.len x0)
                    (
                      N.ite (0 ≤ s1)
                        (
                          N.ite (s1 < N.len x1)
                            (
                              N.bind (laws_eqStatement (N.rd x0 s1 (0, 0, 0, 0)) (N.rd x1 s1 (0, 0, 0, 0))) fun r1 =>
                                N.cond (N.not r1)
                                  (some (.inr false))
                                  (some (.inl (N.add .i64 s1 1))))
                            none)
                        none)
                    none)
                none)
            (some (.inr true)))
        0)

noncomputable def laws_FnExactProvenBy (x0 : List Int) (x1 : List Statement) (x2 : Int) (x3 : Int) : Option (Bool) :=
  N.cond (N.gt (N.len x0) 1048576)
    (some true)
    (
      N.bind (laws_szStatementS x1 1048576) fun r1 =>
        N.cond (N.lt r1 0)
          (some true)
          (
            N.bind (laws_toIntS x0) fun r2 =>
              N.bind (laws_toStatementS x1) fun r3 =>
                N.bind (spec_ProvenBy r2 r3 x2 x3) fun r4 =>
                  N.bind (laws_toIntS x0) fun r5 =>
                    N.bind (laws_toStatementS x1) fun r6 =>
                      N.bind (impl_ProvenBy r5 r6 x2 x3) fun r7 =>
                        N.cond (N.ne r7 r4)
                          (some false)
                          (
                            N.bind (laws_toIntS x0) fun r8 =>
                              N.bind (laws_eqIntS r5 r8) fun r9 =>
                                N.cond (N.not r9)
                                  (some false)
                                  (
                                    N.bind (laws_toStatementS x1) fun r10 =>
                                      N.bind (laws_eqStatementS r6 r10) fun r11 =>
                                        N.cond (N.not r11)
                                          (some false)
                                          (some true)))))

end D
end Go.Sh
set_option linter.unusedVariables false
set_option linter.unusedSimpArgs false
namespace Go.Sh
open Go
/-! ## Loops -/
theorem loopN_det {S R : Type} {step : S → Option (S ⊕ R)} : ∀ {n m : Nat} {s : S} {a b : R}, loopN step n s = some a → loopN step m s = some b → a = b
  | 0, _, _, _, _, h, _ => by simp [loopN] at h
  | _ + 1, 0, _, _, _, _, h => by simp [loopN] at h
  | n + 1, m + 1, s, a, b, h1, h2 => by
    simp only [loopN] at h1 h2
    split at h1
    · cases h1
    · rename_i s' hs; rw [hs] at h2; exact loopN_det h1 h2
    · rename_i r hr; rw [hr] at h2; simp at h1 h2; rw [← h1, ← h2]

theorem loopF_of {S R : Type} {step : S → Option (S ⊕ R)} {s : S} {n : Nat} {r : R} (h : loopN step n s = some r) : loopF step s = some r := by
  have hx : ∃ n r, loopN step n s = some r := ⟨n, r, h⟩
  unfold loopF
  rw [dif_pos hx]
  obtain ⟨m, hm⟩ := Classical.choose_spec hx |> fun h => (⟨_, Classical.choose_spec h⟩ : ∃ v, loopN step (Classical.choose hx) s = some v)
  have := Classical.choose_spec (Classical.choose_spec hx)
  rw [loopN_det this h]

theorem loopF_inr {S R : Type} {step : S → Option (S ⊕ R)} {s : S} {r : R} (h : step s = some (.inr r)) : loopF step s = some r :=
  loopF_of (n := 1) (by simp [loopN, h])

theorem loopF_inl {S R : Type} {step : S → Option (S ⊕ R)} {s s' : S} (h : step s = some (.inl s')) : loopF step s = loopF step s' := by
  by_cases hx : ∃ n r, loopN step n s' = some r
  · obtain ⟨n, r, hn⟩ := hx
    rw [loopF_of hn, loopF_of (n := n + 1) (r := r) (by simp [loopN, h, hn])]
  · have hy : ¬ ∃ n r, loopN step n s = some r := by
      rintro ⟨n, r, hn⟩
      cases n with
      | zero => simp [loopN] at hn
      | succ n => simp only [loopN, h] at hn; exact hx ⟨n, r, hn⟩
    unfold loopF
    rw [dif_neg hx, dif_neg hy]

/-- counting up to n -/
theorem loop_upto {σ S R : Type} {step : S → Option (S ⊕ R)} (n : Nat) (emb : Nat → σ → S) (st : Nat → σ) (r : R)
    (hstep : ∀ k < n, step (emb k (st k)) = some (.inl (emb (k + 1) (st (k + 1))))) (hend : step (emb n (st n)) = some (.inr r)) : loopF step (emb 0 (st 0)) = some r := by
  have key : ∀ (m k : Nat), k + m = n → loopF step (emb k (st k)) = some r := by
    intro m
    induction m with
    | zero => intro k hk; have : k = n := by omega
              subst this; exact loopF_inr hend
    | succ m ih => intro k hk; rw [loopF_inl (hstep k (by omega))]; exact ih (k + 1) (by omega)
  exact key n 0 (by omega)

/-! ## Words -/

section
variable {R α β : Type}
@[simp] theorem bind_some' (x : β) (f : β → Option R) : N.bind (some x) f = f x := rfl

@[simp] theorem cond_true (x y : Option R) : N.cond true x y = x := rfl

@[simp] theorem cond_false (x y : Option R) : N.cond false x y = y := rfl

theorem cond_dec (p : Prop) [Decidable p] (x y : Option R) : N.cond (decide p) x y = if p then x else y := by unfold N.cond; by_cases h : p <;> simp [h]

theorem ite_if (c : Prop) [Decidable c] (x y : Option R) : N.ite c x y = if c then x else y := rfl

theorem nite_pos {c : Prop} [Decidable c] (h : c) (x y : Option R) : N.ite c x y = x := if_pos h

theorem nite_neg {c : Prop} [Decidable c] (h : ¬ c) (x y : Option R) : N.ite c x y = y := if_neg h

theorem lt_d (a b : Int) : N.lt a b = decide (a < b) := rfl

theorem le_d (a b : Int) : N.le a b = decide (a ≤ b) := rfl

theorem gt_d (a b : Int) : N.gt a b = decide (b < a) := rfl

theorem ge_d (a b : Int) : N.ge a b = decide (b ≤ a) := rfl

theorem eq_d (a b : Int) : N.eq a b = decide (a = b) := rfl

theorem ne_d (a b : Int) : N.ne a b = decide (¬ a = b) := by
  unfold N.ne; by_cases h : a = b <;> simp [h]

theorem len_d (xs : List α) : N.len xs = (xs.length : Int) := by simp [N.len]

theorem rd_at (xs : List α) (k : Nat) (hk : k < xs.length) (d : α) : N.rd xs (k : Int) d = xs[k] := by
  simp [N.rd, List.getD, hk]

theorem wrap_id {n : Int} (h1 : -9223372036854775808 ≤ n) (h2 : n < 9223372036854775808) : IntKind.i64.wrap n = n := by
  have e1 : ((2 : Int) ^ IntKind.i64.bits) = 18446744073709551616 := by decide
  have e2 : ((2 : Int) ^ (IntKind.i64.bits - 1)) = 9223372036854775808 := by decide
  have e3 : IntKind.i64.signed = true := rfl
  unfold IntKind.wrap
  rw [e1, e2, e3]
  simp only [Bool.true_and, decide_eq_true_eq]
  split <;> omega

theorem add_id {a b : Int} (h1 : -9223372036854775808 ≤ a + b) (h2 : a + b < 9223372036854775808) : N.add .i64 a b = a + b := wrap_id h1 h2

theorem sub_id {a b : Int} (h1 : -9223372036854775808 ≤ a - b) (h2 : a - b < 9223372036854775808) : N.sub .i64 a b = a - b := wrap_id h1 h2

theorem mul_id {a b : Int} (h1 : -9223372036854775808 ≤ a * b) (h2 : a * b < 9223372036854775808) : N.mul .i64 a b = a * b := wrap_id h1 h2

theorem next_id {k n : Nat} (hk : k < n) (hn : (n : Int) < 9223372036854775808) : N.add .i64 (k : Int) 1 = ((k + 1 : Nat) : Int) := by
  rw [add_id (by omega) (by omega)]; omega

end
end Go.Sh
set_option linter.unusedVariables false
set_option linter.unusedSimpArgs false
namespace Go.Sh
open Go
/-! ## Bounds of data -/
class Data (α : Type) where
  bd : α → Prop
  ok : α → Prop
  le : ∀ x, ok x → bd x

class Flat (α : Type) [Data α] where
  fl : ∀ x : α, Data.bd x → Data.ok x

open Data
instance : Data Int := ⟨fun x => -9223372036854775808 ≤ x ∧ x < 9223372036854775808, fun x => -9223372036854775808 ≤ x ∧ x < 9223372036854775808, fun _ h => h⟩

instance : Data Bool := ⟨fun _ => True, fun _ => True, fun _ h => h⟩

instance : Data ByteArray := ⟨fun s => s.size ≤ 4611686018427387904, fun s => s.size ≤ 4611686018427387904, fun _ h => h⟩

instance {α β : Type} [Data α] [Data β] : Data (α × β) := ⟨fun x => bd x.1 ∧ bd x.2, fun x => ok x.1 ∧ ok x.2, fun x h => ⟨le _ h.1, le _ h.2⟩⟩

instance {α : Type} [Data α] : Data (List α) := ⟨fun xs => xs.length ≤ 4611686018427387904 ∧ ∀ x ∈ xs, bd x, fun xs => xs.length ≤ 1048576 ∧ ∀ x ∈ xs, ok x, fun xs h => ⟨by omega, fun x hx => le x (h.2 x hx)⟩⟩

instance : Flat Int := ⟨fun _ h => h⟩

instance : Flat Bool := ⟨fun _ h => h⟩

instance : Flat ByteArray := ⟨fun _ h => h⟩

instance {α β : Type} [Data α] [Data β] [Flat α] [Flat β] : Flat (α × β) := ⟨fun x h => ⟨Flat.fl _ h.1, Flat.fl _ h.2⟩⟩

section
variable {α : Type} [Data α]
theorem Data.ok.cons {x : α} {xs : List α} (h : ok (x :: xs)) : ok x ∧ ok xs := ⟨h.2 x (by simp), by have := h.1; simp at this; omega, fun y hy => h.2 y (by simp [hy])⟩

theorem Data.bd.cons {x : α} {xs : List α} (h : bd (x :: xs)) : bd x ∧ bd xs := ⟨h.2 x (by simp), by have := h.1; simp at this; omega, fun y hy => h.2 y (by simp [hy])⟩

theorem Data.ok.sub {xs ys : List α} (h : ok xs) (hs : ys.Sublist xs) : ok ys := ⟨Nat.le_trans hs.length_le h.1, fun x hx => h.2 x (hs.subset hx)⟩

end
/-! ## Words, once more -/

section
variable {R α β : Type}
theorem neB_d (a b : Bool) : N.neB a b = decide (¬ a = b) := by cases a <;> cases b <;> rfl

theorem not_d (p : Prop) [Decidable p] : N.not (decide p) = decide (¬ p) := by unfold N.not; by_cases h : p <;> simp [h]

theorem both_d (p q : Prop) [Decidable p] [Decidable q] : N.both (decide p) (decide q) = decide (p ∧ q) := by unfold N.both; by_cases h : p <;> by_cases h' : q <;> simp [h, h']

theorem not_b (b : Bool) : N.not b = !b := rfl

/-! ## Copies -/
theorem set_grow {xs ys : List α} {k : Nat} (hk : k < xs.length) (hl : ys.length = xs.length) (h : ys.take k = xs.take k) : (ys.set k xs[k]).take (k + 1) = xs.take (k + 1) := by
  apply List.ext_getElem
  · simp [hl]
  · intro i h1 h2
    simp only [List.length_take, List.length_set] at h1 h2
    simp only [List.getElem_take, List.getElem_set]
    split
    · rename_i e; subst e; rfl
    · have hi : i < k := by omega
      have := congrArg (fun l => l[i]?) h
      simp [List.getElem?_take, hi] at this
      rw [List.getElem?_eq_getElem (by omega), List.getElem?_eq_getElem (by omega)] at this
      simpa using this

/-- an element of a list that is copied -/
def toStep (xs : List α) (d : α) (f : α → Option α) (s1 : Int × List α) : Option ((Int × List α) ⊕ List α) :=
  N.cond (N.lt s1.1 (N.len xs)) (N.ite (0 ≤ s1.1) (N.ite (s1.1 < N.len xs) (N.bind (f (N.rd xs s1.1 d)) fun r1 => N.ite (0 ≤ s1.1) (N.ite (s1.1 < N.len s1.2) (some (.inl (N.add .i64 s1.1 1, N.set s1.2 s1.1 r1))) none) none) none) none) (some (.inr s1.2))

theorem toLoop {xs : List α} {d : α} {f : α → Option α} (hf : ∀ x ∈ xs, f x = some x) (hs : xs.length ≤ 1048576) : loopF (toStep xs d f) (0, N.rep (N.len xs) d) = some xs := by
  have key : ∀ (m k : Nat) (ys : List α), k + m = xs.length → ys.length = xs.length → ys.take k = xs.take k → loopF (toStep xs d f) ((k : Int), ys) = some xs := by
    intro m
    induction m with
    | zero =>
      intro k ys hk hl ht
      refine loopF_inr ?_
      have : ys = xs := by
        rw [show k = xs.length by omega] at ht
        rw [List.take_length, ← hl, List.take_length] at ht
        exact ht
      subst this
      simp only [toStep, lt_d, len_d, cond_dec]
      rw [if_neg (by omega)]
    | succ m ih =>
      intro k ys hk hl ht
      have hlt : k < xs.length := by omega
      rw [loopF_inl (s' := (((k + 1 : Nat) : Int), ys.set k xs[k])) ?_]
      · exact ih (k + 1) _ (by omega) (by simp [hl]) (set_grow hlt hl ht)
      · simp only [toStep, ite_if]; simp only [lt_d, len_d, cond_dec]
        rw [if_pos (by omega), if_pos (by omega), if_pos (by omega), rd_at xs k hlt, hf _ (List.getElem_mem hlt), bind_some', if_pos (by omega), if_pos (by omega), next_id hlt (by omega)]
        rfl
  have := key xs.length 0 (N.rep (N.len xs) d) (by omega) (by simp [N.rep, N.len]) (by simp)
  simpa using this

theorem toS_is {xs : List α} {bytes : Nat} {d : α} {f : α → Option α} (hb : bytes ≤ 10000) (hf : ∀ x ∈ xs, f x = some x) (hs : xs.length ≤ 1048576) :
    N.ite (0 ≤ N.len xs) (N.ite (N.room (N.len xs) bytes) (loopF (toStep xs d f) (0, N.rep (N.len xs) d)) none) none = some xs := by
  rw [nite_pos (by simp [N.len]), nite_pos, toLoop hf hs]
  unfold N.room N.len
  have : (xs.length : Int) * bytes ≤ 1048576 * 10000 := Int.mul_le_mul (by omega) (by omega) (by omega) (by omega)
  omega

/-! ## Comparing -/
def eqStep (xs ys : List α) (d : α) (f : α → α → Option Bool) (s1 : Int) : Option (Int ⊕ Bool) :=
  N.cond (N.lt s1 (N.len xs)) (N.ite (0 ≤ s1) (N.ite (s1 < N.len xs) (N.ite (0 ≤ s1) (N.ite (s1 < N.len ys) (N.bind (f (N.rd xs s1 d) (N.rd ys s1 d)) fun r1 => N.cond (N.not r1) (some (.inr false)) (some (.inl (N.add .i64 s1 1)))) none) none) none) none) (some (.inr true))

theorem eqLoop [DecidableEq α] {xs ys : List α} {d : α} {f : α → α → Option Bool} {r : α → α → Bool} (hf : ∀ x ∈ xs, ∀ y ∈ ys, f x y = some (r x y)) (hs : xs.length ≤ 4611686018427387904) (hl : xs.length = ys.length) :
    loopF (eqStep xs ys d f) 0 = some ((List.zip xs ys).all fun p => r p.1 p.2) := by
  have key : ∀ (m k : Nat), k + m = xs.length → loopF (eqStep xs ys d f) (k : Int) = some ((List.zip (xs.drop k) (ys.drop k)).all fun p => r p.1 p.2) := by
    intro m
    induction m with
    | zero =>
      intro k hk
      rw [loopF_inr (r := true) ?_]
      · rw [List.drop_eq_nil_of_le (by omega)]; simp
      · simp only [eqStep, lt_d, len_d, cond_dec]; rw [if_neg (by omega)]
    | succ m ih =>
      intro k hk
      have hlt : k < xs.length := by omega
      have hlt' : k < ys.length := by omega
      rw [List.drop_eq_getElem_cons hlt, List.drop_eq_getElem_cons hlt']
      have hst : eqStep xs ys d f (k : Int) = N.cond (N.not (r xs[k] ys[k])) (some (.inr false)) (some (.inl ((k + 1 : Nat) : Int))) := by
        simp only [eqStep, ite_if]; simp only [lt_d, len_d, cond_dec]
        rw [if_pos (by omega), if_pos (by omega), if_pos (by omega), if_pos (by omega), if_pos (by omega), rd_at xs k hlt, rd_at ys k hlt', hf _ (List.getElem_mem hlt) _ (List.getElem_mem hlt'), bind_some', next_id hlt (by omega)]
      cases hr : r xs[k] ys[k] with
      | true => rw [loopF_inl (s' := ((k + 1 : Nat) : Int)) (by rw [hst, hr]; rfl), ih (k + 1) (by omega)]; simp only [List.zip_cons_cons, List.all_cons, hr, Bool.true_and]
      | false => rw [loopF_inr (r := false) (by rw [hst, hr]; rfl)]; simp only [List.zip_cons_cons, List.all_cons, hr, Bool.false_and]
  simpa using key xs.length 0 (by omega)

theorem zip_all_eq [DecidableEq α] : ∀ {xs ys : List α}, xs.length = ys.length → ((List.zip xs ys).all fun p => decide (p.1 = p.2)) = decide (xs = ys)
  | [], [], _ => by simp
  | x :: xs, y :: ys, h => by
    simp only [List.zip_cons_cons, List.all_cons, zip_all_eq (xs := xs) (ys := ys) (by simpa using h)]
    by_cases h1 : x = y <;> by_cases h2 : xs = ys <;> simp [h1, h2]
  | [], _ :: _, h => by simp at h
  | _ :: _, [], h => by simp at h

theorem eqS_is [DecidableEq α] {xs ys : List α} {d : α} {f : α → α → Option Bool} (hf : ∀ x ∈ xs, ∀ y, f x y = some (decide (x = y))) (hs : xs.length ≤ 4611686018427387904) :
    N.cond (N.ne (N.len xs) (N.len ys)) (some false) (loopF (eqStep xs ys d f) 0) = some (decide (xs = ys)) := by
  simp only [ne_d, len_d, cond_dec]
  split
  · rename_i h
    have : ¬ xs = ys := fun e => h (by rw [e])
    simp [this]
  · rename_i h
    have hl : xs.length = ys.length := by omega
    rw [eqLoop (r := fun x y => decide (x = y)) (fun x hx y _ => hf x hx y) hs hl, zip_all_eq hl]

/-! ## Sizes -/
def SzOk [Data α] (f : α → Int → Option Int) : Prop := ∀ x left, bd x → 0 ≤ left → left ≤ 1048576 → ∃ r, f x left = some r ∧ (r < 0 ∨ (ok x ∧ 0 ≤ r ∧ r ≤ left))

theorem szFlat_is [Data α] [Flat α] : SzOk (fun (xs : List α) (left : Int) => N.cond (N.lt (N.sub .i64 left (N.len xs)) 0) (some (-1)) (some (N.sub .i64 left (N.len xs)))) := by
  intro xs left hb h0 h1
  have h2 := hb.1
  simp only [len_d, lt_d, cond_dec, sub_id (a := left) (b := (xs.length : Int)) (by omega) (by omega)]
  split
  · exact ⟨-1, rfl, .inl (by omega)⟩
  · exact ⟨_, rfl, .inr ⟨⟨by omega, fun x hx => Flat.fl x (hb.2 x hx)⟩, by omega, by omega⟩⟩

end
end Go.Sh
set_option linter.unusedVariables false
set_option linter.unusedSimpArgs false
set_option synthInstance.maxSize 100000
set_option maxHeartbeats 1000000
namespace Go.Sh
open Go Data
namespace D
theorem laws_szStatementS_is : SzOk laws_szStatementS := szFlat_is

theorem laws_toIntS_is (x : List Int) (h : ok x) : laws_toIntS x = some x := by
  unfold laws_toIntS
  exact toS_is (d := 0) (f := fun y => some y) (by decide) (fun y hy => rfl) h.1

theorem laws_toStatement_is (x : Statement) (h : ok x) : laws_toStatement x = some x := rfl

theorem laws_toStatementS_is (x : List Statement) (h : ok x) : laws_toStatementS x = some x := by
  unfold laws_toStatementS
  exact toS_is (d := (0, 0, 0, 0)) (f := laws_toStatement) (by decide) (fun y hy => laws_toStatement_is y (h.2 y hy)) h.1

theorem laws_eqIntS_is (x y : List Int) (h : ok x) : laws_eqIntS x y = some (decide (x = y)) := by
  have e : laws_eqIntS x y = N.cond (N.ne (N.len x) (N.len y)) (some false) (loopF (eqStep x y 0 fun a b => some (decide (a = b))) 0) := by
    unfold laws_eqIntS
    congr 2 <;> (funext s; simp only [eqStep, bind_some', ne_d, not_d, cond_dec]; try simp only [ite_not])
  rw [e]
  exact eqS_is (fun a ha b => rfl) (by have := h.1; omega)

theorem laws_eqStatement_is (x y : Statement) (h : ok x) : laws_eqStatement x y = some (decide (x = y)) := by
  obtain ⟨a0, a1, a2, a3⟩ := x; obtain ⟨b0, b1, b2, b3⟩ := y
  unfold laws_eqStatement
  simp only [ne_d, neB_d, not_d, cond_dec, Prod.mk.injEq]
  by_cases e0 : a0 = b0 <;> by_cases e1 : a1 = b1 <;> by_cases e2 : a2 = b2 <;> by_cases e3 : a3 = b3 <;> simp [e0, e1, e2, e3]

theorem laws_eqStatementS_is (x y : List Statement) (h : ok x) : laws_eqStatementS x y = some (decide (x = y)) := by
  unfold laws_eqStatementS
  exact eqS_is (d := (0, 0, 0, 0)) (f := laws_eqStatement) (fun a ha b => laws_eqStatement_is a b (h.2 a ha)) (by have := h.1; omega)

end D
end Go.Sh
set_option linter.unusedVariables false
set_option linter.unusedSimpArgs false
set_option synthInstance.maxSize 100000
set_option maxHeartbeats 1000000
namespace Go.Sh
open Go Data
namespace D
theorem spec_l1In_is (a b c : Int) : spec_l1In a b c = some (decide (b ≤ a ∧ a ≤ c)) := by
  unfold spec_l1In
  simp only [ge_d, le_d, cond_dec]
  by_cases h1 : b ≤ a <;> by_cases h2 : a ≤ c <;> simp [h1, h2]

theorem impl_InRange_is (a b c : Int) : impl_InRange a b c = some (decide (b ≤ a ∧ a ≤ c)) := by
  unfold impl_InRange
  simp only [ge_d, le_d, cond_dec]
  by_cases h1 : b ≤ a <;> by_cases h2 : a ≤ c <;> simp [h1, h2]

theorem impl_at_is (a b : Int) : impl_at a b = some (decide (0 ≤ a ∧ a < b)) := by
  unfold impl_at
  simp only [ge_d, lt_d, cond_dec]
  by_cases h1 : 0 ≤ a <;> by_cases h2 : a < b <;> simp [h1, h2]

theorem rem_pos {a b : Int} (ha : 0 ≤ a) : N.rem a b = a % b := by unfold N.rem; exact Int.tmod_eq_emod_of_nonneg ha

theorem mod_core {p q : Int} (h1 : 1 ≤ q) (h2 : q ≤ 1000000000000) : N.rem (N.add .i64 (N.rem p q) q) q = p % q := by
  have hr : -q < p.tmod q ∧ p.tmod q < q := by
    constructor
    · have := Int.lt_tmod_of_pos p (by omega : 0 < q); omega
    · exact Int.tmod_lt_of_pos p (by omega)
  have e : N.add .i64 (N.rem p q) q = p.tmod q + q := add_id (by unfold N.rem; omega) (by unfold N.rem; omega)
  rw [e, rem_pos (by omega)]
  have : p.tmod q % q = p % q := by
    have h := Int.mul_tdiv_add_tmod p q
    conv => rhs; rw [← h]
    simp [Int.add_emod]
  rw [Int.add_emod, Int.emod_self, Int.add_zero, Int.emod_emod_of_dvd _ (Int.dvd_refl q), this]

theorem spec_Mod_is {p q : Int} (h1 : 1 ≤ q) (h2 : q ≤ 1000000000000) : spec_Mod p q = some (p % q) := by
  unfold spec_Mod
  rw [spec_l1In_is, bind_some', not_d, cond_dec, if_neg (by simp; omega), nite_neg (by omega), nite_neg (by omega), mod_core h1 h2]

theorem impl_Mod_is {p q : Int} (h1 : 1 ≤ q) (h2 : q ≤ 1000000000000) : impl_Mod p q = some (p % q) := by
  unfold impl_Mod
  rw [impl_InRange_is, bind_some', not_d, cond_dec, if_neg (by simp; omega), nite_neg (by omega), nite_neg (by omega), mod_core h1 h2]

/-! ## Hash -/
def hash1 (h v : Int) : Int := (h * 1000003 + v % 2147483647 + 13) % 2147483647

def hashP (l : List Int) : Int := l.foldl hash1 11

theorem hash1_in (h v : Int) : 0 ≤ hash1 h v ∧ hash1 h v < 2147483647 := by unfold hash1; omega

theorem hash_fold : ∀ (l : List Int) (h : Int), 0 ≤ h → h < 2147483647 → 0 ≤ l.foldl hash1 h ∧ l.foldl hash1 h < 2147483647
  | [], h, h0, h1 => ⟨h0, h1⟩
  | v :: l, h, _, _ => hash_fold l (hash1 h v) (hash1_in h v).1 (hash1_in h v).2

theorem hash_step {h v : Int} (h0 : 0 ≤ h) (h1 : h < 2147483647) : N.rem (N.add .i64 (N.add .i64 (N.mul .i64 h 1000003) (v % 2147483647)) 13) 2147483647 = hash1 h v := by
  rw [mul_id (by omega) (by omega), add_id (a := h * 1000003) (b := v % 2147483647) (by omega) (by omega), add_id (by omega) (by omega), rem_pos (by omega)]; rfl

def hashBody (mod : Int → Int → Option Int) (l : List Int) (s1 : Int × Int) : Option ((Int × Int) ⊕ Int) :=
  N.cond (N.lt s1.2 (N.len l)) (N.ite (0 ≤ s1.2) (N.ite (s1.2 < N.len l) (N.bind (mod (N.rd l s1.2 0) 2147483647) fun r1 => some (.inl (N.rem (N.add .i64 (N.add .i64 (N.mul .i64 s1.1 1000003) r1) 13) 2147483647, N.add .i64 s1.2 1))) none) none) (some (.inr s1.1))

theorem hash_loop {mod : Int → Int → Option Int} (hm : ∀ v, mod v 2147483647 = some (v % 2147483647)) {l : List Int} (hl : l.length ≤ 4611686018427387904) : loopF (hashBody mod l) (11, 0) = some (hashP l) := by
  refine loop_upto l.length (fun k (h : Int) => (h, (k : Int))) (fun k => (l.take k).foldl hash1 11) (hashP l) (fun k hk => ?_) ?_
  · have hin := hash_fold (l.take k) 11 (by omega) (by omega)
    have hb : hashBody mod l ((l.take k).foldl hash1 11, (k : Int)) = some (.inl (hash1 ((l.take k).foldl hash1 11) l[k], ((k + 1 : Nat) : Int))) := by
      simp only [hashBody, ite_if]; simp only [lt_d, len_d, cond_dec]
      rw [if_pos (by omega), if_pos (by omega), if_pos (by omega), rd_at l k hk, hm, bind_some', hash_step hin.1 hin.2, next_id hk (by omega)]
    simp only [hb, List.take_succ_eq_append_getElem hk, List.foldl_append, List.foldl_cons, List.foldl_nil]
  · simp only [hashBody, lt_d, len_d, cond_dec, List.take_length]
    rw [if_neg (by omega)]; rfl

theorem spec_Hash_is {l : List Int} (hl : l.length ≤ 4611686018427387904) : spec_Hash l = some (hashP l) := hash_loop (mod := spec_Mod) (fun v => spec_Mod_is (by omega) (by omega)) hl

theorem impl_Hash_is {l : List Int} (hl : l.length ≤ 4611686018427387904) : impl_Hash l = some (hashP l) := hash_loop (mod := impl_Mod) (fun v => impl_Mod_is (by omega) (by omega)) hl

theorem fits8 {α : Type} {xs ys : List α} (h : xs.length + ys.length ≤ 17592186044416) : N.fits xs ys 8 := by unfold N.fits; omega

def keyedP (k : Int) (l : List Int) : Int := hashP (([k] ++ l) ++ [k])

theorem spec_KeyedHash_is {k : Int} {l : List Int} (hl : l.length ≤ 10000000) : spec_KeyedHash k l = some (keyedP k l) := by
  unfold spec_KeyedHash
  rw [nite_pos (fits8 (by simp; omega)), nite_pos (fits8 (by simp [N.app]; omega)), spec_Hash_is (by simp [N.app]; omega)]; rfl

theorem impl_KeyedHash_is {k : Int} {l : List Int} (hl : l.length ≤ 10000000) : impl_KeyedHash k l = some (keyedP k l) := by
  unfold impl_KeyedHash
  rw [nite_pos (fits8 (by simp; omega)), nite_pos (fits8 (by simp [N.app]; omega)), impl_Hash_is (by simp [N.app]; omega)]; rfl

def validP (k : Int) : Prop := 1 ≤ k ∧ k ≤ 2147483646

instance (k : Int) : Decidable (validP k) := inferInstanceAs (Decidable (_ ∧ _))

theorem spec_IsValidKey_is (k : Int) : spec_IsValidKey k = some (decide (validP k)) := by unfold spec_IsValidKey; rw [spec_l1In_is]; rfl

theorem impl_IsValidKey_is (k : Int) : impl_IsValidKey k = some (decide (validP k)) := by unfold impl_IsValidKey; rw [impl_InRange_is]; rfl

/-! ## Statements -/
def sealP (k : Int) (s : Statement) : Statement := (s.1, s.2.1, s.2.2.1, if validP k then keyedP k [s.1, s.2.1, s.2.2.1] else 0)

theorem spec_SealStatement_is (k : Int) (s : Statement) : spec_SealStatement k s = some (sealP k s) := by
  unfold spec_SealStatement sealP
  rw [spec_IsValidKey_is, bind_some', cond_dec, spec_KeyedHash_is (by simp), bind_some']
  split <;> rfl

theorem impl_SealStatement_is (k : Int) (s : Statement) : impl_SealStatement k s = some (sealP k s) := by
  unfold impl_SealStatement sealP
  rw [impl_IsValidKey_is, bind_some', cond_dec, impl_KeyedHash_is (by simp), bind_some']
  split <;> rfl

/-- a statement that counts -/
def isStatementP (keys : List Int) (s : Statement) : Bool := decide (keys.length ≤ 7) && decide (0 ≤ s.1 ∧ s.1 < (keys.length : Int)) && decide (validP (N.rd keys s.1 0)) && decide (0 ≤ s.2.2.1 ∧ s.2.2.1 ≤ 2000) && decide (s.2.2.2 = keyedP (N.rd keys s.1 0) [s.1, s.2.1, s.2.2.1])

theorem spec_IsStatement_is (keys : List Int) (s : Statement) : spec_IsStatement keys s = some (isStatementP keys s) := by
  unfold spec_IsStatement isStatementP
  simp only [ite_if]
  simp only [gt_d, len_d, cond_dec, spec_l1In_is, bind_some', not_d, spec_IsValidKey_is, spec_SealStatement_is, sealP, eq_d]
  by_cases h1 : keys.length ≤ 7
  · rw [if_neg (by omega), sub_id (by omega) (by omega)]
    by_cases h2 : 0 ≤ s.1 ∧ s.1 < (keys.length : Int)
    · rw [if_neg (by omega)]
      by_cases h3 : 0 ≤ s.2.2.1 ∧ s.2.2.1 ≤ 2000
      · rw [if_neg (by simpa using h3), if_pos h2.1, if_pos h2.2]
        by_cases h4 : validP (N.rd keys s.1 0)
        · rw [if_neg (by simpa using h4), if_pos h2.1, if_pos h2.2]
          simp only [h1, h2, h3, h4, if_true, decide_true, Bool.true_and, and_self]
          by_cases h5 : s.2.2.2 = keyedP (N.rd keys s.1 0) [s.1, s.2.1, s.2.2.1]
          · simp [h5]
          · have : ¬ keyedP (N.rd keys s.1 0) [s.1, s.2.1, s.2.2.1] = s.2.2.2 := fun e => h5 e.symm
            simp [h5, this]
        · rw [if_pos (by simpa using h4)]; simp [h4]
      · rw [if_pos (by simpa using h3)]; simp only [h3, decide_false, Bool.and_false, Bool.false_and]
    · rw [if_pos (by omega)]; simp only [h2, decide_false, Bool.and_false, Bool.false_and]
  · rw [if_pos (by omega)]; simp [h1]

theorem impl_IsStatement_is (keys : List Int) (s : Statement) : impl_IsStatement keys s = some (isStatementP keys s) := by
  unfold impl_IsStatement isStatementP
  simp only [ite_if]
  simp only [le_d, len_d, cond_dec, impl_at_is, impl_InRange_is, bind_some', impl_IsValidKey_is, impl_SealStatement_is, sealP, eq_d, both_d]
  by_cases h1 : keys.length ≤ 7
  · rw [if_pos (by omega)]
    by_cases h2 : 0 ≤ s.1 ∧ s.1 < (keys.length : Int)
    · rw [if_pos h2, if_pos h2.1, if_pos h2.2]
      by_cases h4 : validP (N.rd keys s.1 0)
      · rw [if_pos h4]
        by_cases h3 : 0 ≤ s.2.2.1 ∧ s.2.2.1 ≤ 2000
        · rw [if_pos h3, if_pos h2.1, if_pos h2.2]
          simp only [h1, h2, h3, h4, if_true, decide_true, Bool.true_and, and_self, true_and]
          by_cases h5 : s.2.2.2 = keyedP (N.rd keys s.1 0) [s.1, s.2.1, s.2.2.1]
          · simp [h5]
          · have : ¬ keyedP (N.rd keys s.1 0) [s.1, s.2.1, s.2.2.1] = s.2.2.2 := fun e => h5 e.symm
            simp [h5, this]
        · rw [if_neg h3]; simp only [h3, decide_false, Bool.and_false, Bool.false_and]
      · rw [if_neg h4]; simp [h4]
    · rw [if_neg h2]; simp only [h2, decide_false, Bool.and_false, Bool.false_and]
  · rw [if_neg (by omega)]; simp [h1]

end D
end Go.Sh
set_option linter.unusedVariables false
set_option linter.unusedSimpArgs false
set_option synthInstance.maxSize 100000
set_option maxHeartbeats 1000000
namespace Go.Sh
open Go Data
namespace D
/-! ## Counts -/

end D
end Go.Sh
set_option linter.unusedVariables false
set_option linter.unusedSimpArgs false
set_option synthInstance.maxSize 100000
set_option maxHeartbeats 1000000
namespace Go.Sh
open Go Data
theorem fitsN {α : Type} {xs ys : List α} {b : Nat} (h : xs.length + ys.length ≤ 100000000) (hb : b ≤ 1000000) : N.fits xs ys b := by
  unfold N.fits
  exact Nat.le_trans (Nat.mul_le_mul h hb) (by decide)

namespace D
end D
end Go.Sh
set_option linter.unusedVariables false
set_option linter.unusedSimpArgs false
set_option synthInstance.maxSize 100000
set_option maxHeartbeats 1000000
namespace Go.Sh
open Go Data
namespace D
theorem cut_take {α : Type} (l : List α) (k : Nat) : N.cut l 0 (k : Int) = l.take k := by simp [N.cut]

end D
end Go.Sh
set_option linter.unusedVariables false
set_option linter.unusedSimpArgs false
set_option synthInstance.maxSize 100000
set_option maxHeartbeats 1000000
namespace Go.Sh
open Go Data
namespace D
end D
end Go.Sh
set_option linter.unusedVariables false
set_option linter.unusedSimpArgs false
set_option synthInstance.maxSize 100000
set_option maxHeartbeats 1000000
namespace Go.Sh
open Go Data
namespace D
end D
end Go.Sh
set_option linter.unusedVariables false
set_option linter.unusedSimpArgs false
set_option synthInstance.maxSize 100000
set_option maxHeartbeats 1000000
namespace Go.Sh
open Go Data
namespace D
end D
end Go.Sh
set_option linter.unusedVariables false
set_option linter.unusedSimpArgs false
set_option synthInstance.maxSize 100000
set_option maxHeartbeats 1000000
namespace Go.Sh
open Go Data
namespace D
end D
end Go.Sh
set_option linter.unusedVariables false
set_option linter.unusedSimpArgs false
set_option synthInstance.maxSize 100000
set_option maxHeartbeats 1000000
namespace Go.Sh
open Go Data
namespace D
end D
end Go.Sh
set_option linter.unusedVariables false
set_option linter.unusedSimpArgs false
set_option synthInstance.maxSize 100000
set_option maxHeartbeats 1000000
namespace Go.Sh
open Go Data
namespace D
end D
end Go.Sh
set_option linter.unusedVariables false
set_option linter.unusedSimpArgs false
set_option synthInstance.maxSize 100000
set_option maxHeartbeats 1000000
namespace Go.Sh
open Go Data
/-! ## What is drawn: it comes back, and keeps its bounds -/
def Gets {α : Type} (P : α → Prop) (r : Option α) : Prop := ∃ x, r = some x ∧ P x

section
variable {α β S R : Type} {P : α → Prop} {Q : R → Prop}
theorem Gets.pure {x : R} (h : Q x) : Gets Q (some x) := ⟨x, rfl, h⟩

theorem Gets.bind {x : Option α} {f : α → Option R} (h : Gets P x) (hf : ∀ a, P a → Gets Q (f a)) : Gets Q (N.bind x f) := by
  obtain ⟨a, rfl, ha⟩ := h; exact hf a ha

theorem Gets.cond {b : Bool} {x y : Option R} (h1 : b = true → Gets Q x) (h2 : b = false → Gets Q y) : Gets Q (N.cond b x y) := by
  unfold N.cond; cases b
  · exact h2 rfl
  · exact h1 rfl

theorem Gets.ite {c : Prop} [Decidable c] {x y : Option R} (hc : c) (h : Gets Q x) : Gets Q (N.ite c x y) := by rw [nite_pos hc]; exact h

theorem Gets.loop {step : S → Option (S ⊕ R)} (I : S → Prop) (m : S → Nat)
    (hs : ∀ s, I s → Gets (fun r => match r with | .inl s' => I s' ∧ m s' < m s | .inr r => Q r) (step s)) (s : S) (h : I s) : Gets Q (loopF step s) := by
  generalize hn : m s = n
  induction n using Nat.strongRecOn generalizing s with
  | ind n ih =>
    obtain ⟨r, e, hr⟩ := hs s h
    cases r with
    | inl s' => rw [loopF_inl e]; exact ih (m s') (by rw [← hn]; exact hr.2) s' hr.1 rfl
    | inr r => exact ⟨r, loopF_inr e, hr⟩

end
def few {α : Type} [Data α] (n : Nat) (xs : List α) : Prop := xs.length ≤ n ∧ ∀ x ∈ xs, ok x

theorem few.ok {α : Type} [Data α] {n : Nat} {xs : List α} (h : few n xs) (hn : n ≤ 1048576) : ok xs := ⟨Nat.le_trans h.1 hn, h.2⟩

theorem few.app {α : Type} [Data α] {n m : Nat} {xs : List α} {x : α} (h : few n xs) (hx : Data.ok x) (hm : n + 1 ≤ m) : few m (N.app xs [x]) :=
  ⟨by have := h.1; simp [N.app]; omega, fun y hy => by
    rcases List.mem_append.1 hy with hy | hy
    · exact h.2 y hy
    · simp at hy; subst hy; exact hx⟩

theorem few.set {α : Type} [Data α] {n : Nat} {xs : List α} {x : α} {i : Int} (h : few n xs) (hx : Data.ok x) : few n (N.set xs i x) :=
  ⟨by have := h.1; simp [N.set]; omega, fun y hy => by
    rcases List.mem_or_eq_of_mem_set hy with hy | hy
    · exact h.2 y hy
    · subst hy; exact hx⟩

theorem few.rd {α : Type} [Data α] {n : Nat} {xs : List α} {i : Int} {d : α} (h : few n xs) (hd : Data.ok d) : Data.ok (N.rd xs i d) := by
  unfold N.rd
  rw [List.getD_eq_getElem?_getD]
  cases e : xs[i.toNat]? with
  | none => exact hd
  | some x => exact h.2 x (List.mem_of_getElem? e)

theorem few.nil {α : Type} [Data α] {n : Nat} : few n ([] : List α) := ⟨by simp, fun _ h => by cases h⟩

namespace D
end D
end Go.Sh
set_option linter.unusedVariables false
set_option linter.unusedSimpArgs false
set_option synthInstance.maxSize 100000
set_option maxHeartbeats 2000000
namespace Go.Sh
open Go Data
namespace D
end D
end Go.Sh
set_option linter.unusedVariables false
set_option linter.unusedSimpArgs false
set_option synthInstance.maxSize 100000
set_option maxHeartbeats 2000000
namespace Go.Sh
open Go Data
namespace D
end D
end Go.Sh
set_option linter.unusedVariables false
set_option linter.unusedSimpArgs false
set_option synthInstance.maxSize 100000
set_option maxHeartbeats 4000000
namespace Go.Sh
open Go Data
namespace D
end D
end Go.Sh
set_option linter.unusedVariables false
set_option linter.unusedSimpArgs false
set_option synthInstance.maxSize 100000
set_option maxHeartbeats 4000000
namespace Go.Sh
open Go Data
namespace D
end D
end Go.Sh
set_option linter.unusedVariables false
set_option linter.unusedSimpArgs false
set_option synthInstance.maxSize 100000
set_option maxHeartbeats 4000000
namespace Go.Sh
open Go Data
namespace D
end D
end Go.Sh
set_option linter.unusedVariables false
set_option linter.unusedSimpArgs false
set_option synthInstance.maxSize 100000
set_option maxHeartbeats 4000000
namespace Go.Sh
open Go Data
namespace D
end D
end Go.Sh
set_option linter.unusedVariables false
set_option linter.unusedSimpArgs false
set_option synthInstance.maxSize 100000
set_option maxHeartbeats 4000000
namespace Go.Sh
open Go Data
namespace D
end D
end Go.Sh
set_option linter.unusedVariables false
set_option linter.unusedSimpArgs false
set_option synthInstance.maxSize 100000
set_option maxHeartbeats 4000000
namespace Go.Sh
open Go Data
namespace D
end D
end Go.Sh
set_option linter.unusedVariables false
set_option linter.unusedSimpArgs false
set_option synthInstance.maxSize 100000
set_option maxHeartbeats 4000000
namespace Go.Sh
open Go Data
end Go.Sh
set_option linter.unusedVariables false
set_option linter.unusedSimpArgs false
set_option synthInstance.maxSize 100000
set_option maxHeartbeats 4000000
namespace Go.Sh
open Go Data
namespace D
end D
end Go.Sh
set_option linter.unusedVariables false
set_option linter.unusedSimpArgs false
set_option synthInstance.maxSize 100000
set_option maxHeartbeats 4000000
namespace Go.Sh
open Go Data
namespace D
end D
end Go.Sh
set_option linter.unusedVariables false
set_option linter.unusedSimpArgs false
set_option synthInstance.maxSize 100000
set_option maxHeartbeats 4000000
namespace Go.Sh
open Go Data
namespace D
end D
end Go.Sh
set_option linter.unusedVariables false
set_option linter.unusedSimpArgs false
set_option synthInstance.maxSize 100000
set_option maxHeartbeats 4000000
namespace Go.Sh
open Go Data
namespace D
end D
end Go.Sh
set_option linter.unusedVariables false
set_option linter.unusedSimpArgs false
set_option synthInstance.maxSize 100000
set_option maxHeartbeats 4000000
namespace Go.Sh
open Go Data
namespace D
end D
end Go.Sh
set_option linter.unusedVariables false
set_option linter.unusedSimpArgs false
set_option synthInstance.maxSize 100000
set_option maxHeartbeats 4000000
namespace Go.Sh
open Go Data
namespace D
end D
end Go.Sh
set_option linter.unusedVariables false
set_option linter.unusedSimpArgs false
set_option synthInstance.maxSize 100000
set_option maxHeartbeats 4000000
namespace Go.Sh
open Go Data
namespace D
end D
end Go.Sh
set_option linter.unusedVariables false
set_option linter.unusedSimpArgs false
set_option synthInstance.maxSize 100000
set_option maxHeartbeats 4000000
namespace Go.Sh
open Go Data
namespace D
end D
end Go.Sh
set_option linter.unusedVariables false
set_option linter.unusedSimpArgs false
set_option synthInstance.maxSize 100000
set_option maxHeartbeats 4000000
namespace Go.Sh
open Go Data
namespace D
end D
end Go.Sh
set_option linter.unusedVariables false
set_option linter.unusedSimpArgs false
set_option synthInstance.maxSize 100000
set_option maxHeartbeats 4000000
namespace Go.Sh
open Go Data
namespace D
end D
end Go.Sh
set_option linter.unusedVariables false
set_option linter.unusedSimpArgs false
set_option synthInstance.maxSize 100000
set_option maxHeartbeats 4000000
namespace Go.Sh
open Go Data
namespace D
end D
end Go.Sh
set_option linter.unusedVariables false
set_option linter.unusedSimpArgs false
set_option synthInstance.maxSize 100000
set_option maxHeartbeats 4000000
namespace Go.Sh
open Go Data
namespace D
end D
end Go.Sh
set_option linter.unusedVariables false
set_option linter.unusedSimpArgs false
set_option synthInstance.maxSize 100000
set_option maxHeartbeats 4000000
namespace Go.Sh
open Go Data
namespace D
end D
end Go.Sh
set_option linter.unusedVariables false
set_option linter.unusedSimpArgs false
set_option synthInstance.maxSize 100000
set_option maxHeartbeats 4000000
namespace Go.Sh
open Go Data
namespace D
end D
end Go.Sh
set_option linter.unusedVariables false
set_option linter.unusedSimpArgs false
set_option synthInstance.maxSize 100000
set_option maxHeartbeats 4000000
namespace Go.Sh
open Go Data
namespace D
end D
end Go.Sh
set_option linter.unusedVariables false
set_option linter.unusedSimpArgs false
set_option synthInstance.maxSize 100000
set_option maxHeartbeats 4000000
namespace Go.Sh
open Go Data
namespace D
end D
end Go.Sh
set_option linter.unusedVariables false
set_option linter.unusedSimpArgs false
set_option synthInstance.maxSize 100000
set_option maxHeartbeats 4000000
namespace Go.Sh
open Go Data
namespace D
/-! ## One number, often -/
theorem u64_id {n : Int} (h0 : 0 ≤ n) (h1 : n < 18446744073709551616) : IntKind.u64.wrap n = n := by
  have e1 : ((2 : Int) ^ IntKind.u64.bits) = 18446744073709551616 := by decide
  have e3 : IntKind.u64.signed = false := rfl
  unfold IntKind.wrap
  rw [e1, e3]
  simp only [Bool.false_and, Bool.false_eq_true, if_false]
  omega

theorem u64_mul {a b : Int} (h0 : 0 ≤ a * b) (h1 : a * b < 18446744073709551616) : N.mul .u64 a b = a * b := u64_id h0 h1

theorem u64_add {a b : Int} (h0 : 0 ≤ a + b) (h1 : a + b < 18446744073709551616) : N.add .u64 a b = a + b := u64_id h0 h1

theorem u64_shr {a : Int} (h0 : 0 ≤ a) (h1 : a < 4294967296) : N.shr .u64 a 32 = 0 := by
  have e : ((2 : Int) ^ (Nat.min (32 : Int).toNat IntKind.u64.bits)) = 4294967296 := by decide
  unfold N.shr
  rw [e, Int.fdiv_eq_ediv_of_nonneg _ (by omega)]
  omega

theorem u64_low {a : Int} (h0 : 0 ≤ a) (h1 : a < 4294967296) : N.and .u64 a 4294967295 = a := by
  obtain ⟨m, rfl⟩ : ∃ m : Nat, a = (m : Int) := ⟨a.toNat, by omega⟩
  have e : (BitVec.ofInt IntKind.u64.bits (m : Int) &&& BitVec.ofInt IntKind.u64.bits 4294967295).toNat = m := by
    show (BitVec.ofInt 64 (m : Int) &&& BitVec.ofInt 64 4294967295).toNat = m
    rw [BitVec.toNat_and, show (BitVec.ofInt 64 4294967295).toNat = 2 ^ 32 - 1 by decide, BitVec.toNat_ofInt, Nat.and_two_pow_sub_one_eq_mod]
    omega
  unfold N.and
  rw [e]
  exact u64_id (by omega) (by omega)

theorem bits_Mul_one {n : Int} (h0 : 0 ≤ n) (h1 : n < 4294967296) : bits_Mul 1 n = some (0, n) := by
  unfold bits_Mul bits_Mul64
  rw [bind_some']
  have a1 : N.shr .u64 1 32 = 0 := u64_shr (by omega) (by omega)
  have a2 : N.shr .u64 n 32 = 0 := u64_shr h0 h1
  have a3 : N.and .u64 1 4294967295 = 1 := u64_low (by omega) (by omega)
  have a4 : N.and .u64 n 4294967295 = n := u64_low h0 h1
  have a5 : N.mul .u64 1 n = n := by rw [u64_mul (by omega) (by omega), Int.one_mul]
  have a6 : ∀ b, N.mul .u64 0 b = 0 := fun b => by rw [u64_mul (by omega) (by omega), Int.zero_mul]
  have a7 : N.mul .u64 1 0 = 0 := by rw [u64_mul (by omega) (by omega), Int.mul_zero]
  have a8 : N.add .u64 0 0 = 0 := u64_add (by omega) (by omega)
  have a9 : N.shr .u64 0 32 = 0 := u64_shr (by omega) (by omega)
  have a10 : N.and .u64 0 4294967295 = 0 := u64_low (by omega) (by omega)
  simp only [a1, a2, a3, a4, a5, a6, a7, a8, a9, a10]

theorem slices_Repeat_is {n : Nat} (h : n ≤ 1048576) : slices_Repeat_int [-1] (n : Int) = some (List.replicate n (-1)) := by
  have hn0 : ¬ (n : Int) < 0 := by omega
  have c1 : N.conv .u64 (N.len ([-1] : List Int)) = 1 := u64_id (n := N.len ([-1] : List Int)) (by rw [len_d]; simp) (by rw [len_d]; simp)
  have c2 : N.conv .u64 (n : Int) = (n : Int) := u64_id (by omega) (by omega)
  have c3 : N.conv .i64 (n : Int) = (n : Int) := wrap_id (by omega) (by omega)
  have hroom : N.room (n : Int) 8 := by unfold N.room; omega
  unfold slices_Repeat_int
  rw [c1, c2, bits_Mul_one (by omega) (by omega), bind_some', lt_d, decide_eq_false hn0, cond_false]
  simp only [gt_d, c3]
  rw [decide_eq_false (by omega), cond_false, decide_eq_false (by omega), cond_false, nite_pos (by omega), nite_pos hroom]
  have hrep : N.rep (n : Int) (0 : Int) = List.replicate n 0 := by unfold N.rep; rw [Int.toNat_natCast]
  have hlr : N.len (List.replicate n (0 : Int)) = (n : Int) := by rw [len_d, List.length_replicate]
  rw [hrep, hlr]
  have key : Gets (fun r => r = List.replicate n (-1)) (loopF (fun (s1 : Int × List Int) =>
      N.cond (N.lt s1.1 (N.len s1.2)) (N.ite (0 ≤ s1.1) (N.ite (s1.1 ≤ N.len s1.2) (N.ite (N.len s1.2 ≤ N.len s1.2) (N.ite (0 ≤ s1.1) (N.ite (s1.1 ≤ N.len s1.2)
        (some (Sum.inl (β := List Int) (N.add .i64 s1.1 (N.min (N.diff (N.len s1.2) s1.1) (N.len (N.cut s1.2 0 s1.1))), N.cpy s1.2 s1.1 (N.diff (N.len s1.2) s1.1) (N.cut s1.2 0 s1.1)))) none) none) none) none) none) (some (.inr s1.2)))
      (N.min (n : Int) (N.len ([-1] : List Int)), N.cpy (List.replicate n 0) 0 (n : Int) [-1])) := by
    refine Gets.loop (I := fun s : Int × List Int => ∃ k : Nat, s.1 = (k : Int) ∧ k ≤ n ∧ (n = 0 ∨ 0 < k) ∧ s.2.length = n ∧ s.2.take k = List.replicate k (-1)) (m := fun s => n - s.1.toNat) (fun s hs => ?_) _ ?_
    · obtain ⟨k, e1, hk, hk0, hl, ht⟩ := hs
      obtain ⟨s1, ys⟩ := s
      simp only at e1 hl ht
      subst e1
      refine Gets.cond (fun hlt => ?_) fun hlt => Gets.pure ?_
      · simp only [lt_d, len_d, decide_eq_true_eq] at hlt
        have hkn : k < n := by omega
        have hcut : N.cut ys 0 (k : Int) = List.replicate k (-1) := by rw [cut_take, ht]
        have hd : N.diff (N.len ys) (k : Int) = ((n - k : Nat) : Int) := by unfold N.diff; rw [len_d]; omega
        refine Gets.ite (by simp only; omega) (Gets.ite (by simp only [len_d]; omega) (Gets.ite (Int.le_refl _) (Gets.ite (by simp only; omega) (Gets.ite (by simp only [len_d]; omega) (Gets.pure ?_)))))
        simp only [hcut, hd]
        have hmin : N.min ((n - k : Nat) : Int) (N.len (List.replicate k (-1 : Int))) = ((min (n - k) k : Nat) : Int) := by
          unfold N.min; rw [len_d, List.length_replicate]; split <;> omega
        rw [hmin, add_id (by omega) (by omega)]
        refine ⟨⟨k + min (n - k) k, by omega, by omega, by omega, ?_, ?_⟩, by omega⟩
        · unfold N.cpy
          simp only [Int.toNat_natCast, List.length_append, List.length_take, List.length_drop, List.length_replicate]
          omega
        · unfold N.cpy
          simp only [Int.toNat_natCast, List.length_take, List.length_replicate, List.take_replicate]
          rw [ht, ← List.append_assoc, List.replicate_append_replicate, List.take_append_of_le_length (by rw [List.length_replicate]; omega), List.take_replicate]
          congr 1
          omega
      · simp only [lt_d, len_d, decide_eq_false_iff_not] at hlt
        have : k = n := by omega
        subst this
        rw [← ht, ← hl, List.take_length]
    · have hm : N.min (n : Int) (N.len ([-1] : List Int)) = ((min n 1 : Nat) : Int) := by
        unfold N.min; rw [len_d]; simp only [List.length_cons, List.length_nil]; split <;> omega
      refine ⟨min n 1, hm, by omega, by omega, ?_, ?_⟩
      · unfold N.cpy
        simp only [Int.toNat_zero, List.take_zero, List.nil_append, Int.toNat_natCast, List.length_append, List.length_take, List.length_drop, List.length_replicate, List.length_cons, List.length_nil]
        omega
      · cases n with
        | zero => rfl
        | succ n =>
          unfold N.cpy
          simp only [Int.toNat_zero, List.take_zero, List.nil_append, Int.toNat_natCast]
          rw [show min (n + 1) 1 = 1 by omega]
          simp
  obtain ⟨r, e, rfl⟩ := key
  exact e

/-! ## Who saw it first -/
def fsStep (keys : List Int) (digest : Int) (out : List Int) (s : Statement) : List Int :=
  if isStatementP keys s = true ∧ s.2.1 = digest ∧ (N.rd out s.1 0 < 0 ∨ s.2.2.1 < N.rd out s.1 0) then N.set out s.1 s.2.2.1 else out

def firstP (keys : List Int) (l : List Statement) (digest : Int) : List Int := l.foldl (fsStep keys digest) (List.replicate keys.length (-1))

theorem fs_len (keys : List Int) (d : Int) : ∀ (l : List Statement) (out : List Int), (l.foldl (fsStep keys d) out).length = out.length := by
  intro l
  induction l with
  | nil => intro out; rfl
  | cons s l ih =>
    intro out
    rw [List.foldl_cons, ih]
    unfold fsStep
    split
    · simp [N.set]
    · rfl

theorem first_len (keys : List Int) (l : List Statement) (d : Int) : (firstP keys l d).length = keys.length := by
  unfold firstP; rw [fs_len, List.length_replicate]

theorem stmt_in {keys : List Int} {s : Statement} (h : isStatementP keys s = true) : 0 ≤ s.1 ∧ s.1 < (keys.length : Int) := by
  unfold isStatementP at h
  simp only [Bool.and_eq_true, decide_eq_true_eq] at h
  exact h.1.1.1.2

theorem fs_next (keys : List Int) (d : Int) (l : List Statement) (k : Nat) (hk : k < l.length) (out : List Int) : (l.take (k + 1)).foldl (fsStep keys d) out = fsStep keys d ((l.take k).foldl (fsStep keys d) out) l[k] := by
  rw [List.take_succ_eq_append_getElem hk, List.foldl_append]; rfl

theorem spec_FirstSeen_is {keys : List Int} {l : List Statement} (hk : keys.length ≤ 1048576) (hl : l.length ≤ 1048576) (d : Int) : spec_FirstSeen keys l d = some (firstP keys l d) := by
  unfold spec_FirstSeen
  refine loop_upto (r := firstP keys l d) keys.length (fun k (a : List Int) => (a, (k : Int))) (fun k => List.replicate k (-1)) (fun k hk' => ?_) ?_
  · have h1 : (k : Int) < (keys.length : Int) := by omega
    simp only [lt_d, len_d]
    rw [decide_eq_true h1, cond_true, nite_pos (fitsN (by simp; omega) (by omega)), next_id hk' (by omega), List.replicate_succ']
    rfl
  · simp only [lt_d, len_d]
    rw [decide_eq_false (Int.lt_irrefl _), cond_false]
    refine congrArg (Option.map Sum.inr) (?_ : _ = some (firstP keys l d))
    refine loop_upto (r := firstP keys l d) l.length (fun k (a : List Int) => ((k : Int), a)) (fun k => (l.take k).foldl (fsStep keys d) (List.replicate keys.length (-1))) (fun k hk' => ?_) ?_
    · have h0 : (0 : Int) ≤ (k : Int) := by omega
      have h1 : (k : Int) < (l.length : Int) := by omega
      have hfl : ((l.take k).foldl (fsStep keys d) (List.replicate keys.length (-1))).length = keys.length := by rw [fs_len, List.length_replicate]
      rw [fs_next keys d l k hk']
      generalize (l.take k).foldl (fsStep keys d) (List.replicate keys.length (-1)) = out at hfl ⊢
      simp only [lt_d, len_d, nite_pos h0, nite_pos h1, rd_at l k hk', spec_IsStatement_is, bind_some', next_id hk' (by omega), ne_d]
      rw [decide_eq_true h1, cond_true]
      unfold fsStep
      cases hst : isStatementP keys l[k] with
      | false => rw [if_neg (fun h => by simp at h)]; rfl
      | true =>
        obtain ⟨i0, i1⟩ := stmt_in hst
        rw [← hfl] at i1
        simp only [nite_pos i0, nite_pos i1, not_b, Bool.not_true, cond_false, true_and]
        by_cases hd : (l[k]).2.1 = d
        · by_cases ho : N.rd out (l[k]).1 0 < 0
          · simp only [hd, ho, true_and, true_or, if_true, not_true_eq_false, decide_false, decide_true, cond_false, cond_true]
          · by_cases ho2 : (l[k]).2.2.1 < N.rd out (l[k]).1 0
            · simp only [hd, ho, ho2, true_and, or_true, if_true, not_true_eq_false, decide_false, decide_true, cond_false, cond_true]
            · simp only [hd, ho, ho2, true_and, or_self, if_false, not_true_eq_false, decide_false, cond_false]
        · simp only [hd, false_and, if_false, not_false_eq_true, decide_true, cond_true]
    · simp only [lt_d, len_d]
      rw [decide_eq_false (Int.lt_irrefl _), cond_false, List.take_length]
      rfl

theorem impl_FirstSeen_is {keys : List Int} {l : List Statement} (hk : keys.length ≤ 1048576) (hl : l.length ≤ 1048576) (d : Int) : impl_FirstSeen keys l d = some (firstP keys l d) := by
  unfold impl_FirstSeen
  rw [show N.len keys = (keys.length : Int) from len_d keys, slices_Repeat_is hk, bind_some']
  refine loop_upto (r := firstP keys l d) l.length (fun k (a : List Int) => ((k : Int), a)) (fun k => (l.take k).foldl (fsStep keys d) (List.replicate keys.length (-1))) (fun k hk' => ?_) ?_
  · have h0 : (0 : Int) ≤ (k : Int) := by omega
    have h1 : (k : Int) < (l.length : Int) := by omega
    have hfl : ((l.take k).foldl (fsStep keys d) (List.replicate keys.length (-1))).length = keys.length := by rw [fs_len, List.length_replicate]
    rw [fs_next keys d l k hk']
    generalize (l.take k).foldl (fsStep keys d) (List.replicate keys.length (-1)) = out at hfl ⊢
    simp only [lt_d, len_d, nite_pos h0, nite_pos h1, rd_at l k hk', impl_IsStatement_is, bind_some', next_id hk' (by omega), eq_d]
    rw [decide_eq_true h1, cond_true]
    unfold fsStep
    cases hst : isStatementP keys l[k] with
    | false =>
      rw [if_neg (fun h => by simp at h)]
      by_cases hd : (l[k]).2.1 = d
      · simp only [hd, decide_true, cond_true, cond_false]
      · simp only [hd, decide_false, cond_false]
    | true =>
      obtain ⟨i0, i1⟩ := stmt_in hst
      rw [← hfl] at i1
      simp only [nite_pos i0, nite_pos i1, cond_true, true_and]
      by_cases hd : (l[k]).2.1 = d
      · by_cases ho : N.rd out (l[k]).1 0 < 0
        · simp only [hd, ho, true_and, true_or, if_true, decide_true, cond_true]
        · by_cases ho2 : (l[k]).2.2.1 < N.rd out (l[k]).1 0
          · simp only [hd, ho, ho2, true_and, or_true, if_true, decide_false, decide_true, cond_false, cond_true]
          · simp only [hd, ho, ho2, true_and, or_self, if_false, decide_false, decide_true, cond_false, cond_true]
      · simp only [hd, false_and, if_false, decide_false, cond_false]
  · simp only [lt_d, len_d]
    rw [decide_eq_false (Int.lt_irrefl _), cond_false, List.take_length]
    rfl

end D
end Go.Sh
set_option linter.unusedVariables false
set_option linter.unusedSimpArgs false
set_option synthInstance.maxSize 100000
set_option maxHeartbeats 4000000
namespace Go.Sh
open Go Data
namespace D
end D
end Go.Sh
set_option linter.unusedVariables false
set_option linter.unusedSimpArgs false
set_option maxRecDepth 100000
set_option maxHeartbeats 4000000
namespace Go.Sh
open Go Data
namespace D
end D
end Go.Sh
set_option linter.unusedVariables false
set_option linter.unusedSimpArgs false
set_option synthInstance.maxSize 100000
set_option maxHeartbeats 4000000
namespace Go.Sh
open Go Data
theorem Gets.both {α : Type} {P Q : α → Prop} {x : Option α} (h1 : Gets P x) (h2 : Gets Q x) : Gets (fun a => P a ∧ Q a) x := by
  obtain ⟨a, rfl, h⟩ := h1
  obtain ⟨b, e, h'⟩ := h2
  simp only [Option.some.injEq] at e
  subst e
  exact ⟨_, rfl, h, h'⟩

namespace D
end D
end Go.Sh
set_option linter.unusedVariables false
set_option linter.unusedSimpArgs false
set_option synthInstance.maxSize 100000
set_option maxHeartbeats 4000000
namespace Go.Sh
open Go Data
namespace D
end D
end Go.Sh
set_option linter.unusedVariables false
set_option linter.unusedSimpArgs false
namespace Go.Sh.D
open Go
/-! ## A comparison and the order that it tells; sorting by blocks and by merging in place -/
theorem loop_meas {S R : Type} {step : S → Option (S ⊕ R)} (I : S → Prop) (μ : S → Nat) (Post : R → Prop)
    (h : ∀ s, I s → (∃ s', step s = some (.inl s') ∧ I s' ∧ μ s' < μ s) ∨ ∃ r, step s = some (.inr r) ∧ Post r) : ∀ s, I s → ∃ r, loopF step s = some r ∧ Post r := by
  have key : ∀ (n : Nat) s, I s → μ s < n → ∃ r, loopF step s = some r ∧ Post r := by
    intro n
    induction n with
    | zero => intro s _ h; omega
    | succ n ih =>
      intro s hs hn
      rcases h s hs with ⟨s', e, hi, hm⟩ | ⟨r, e, hr⟩
      · rw [loopF_inl e]; exact ih s' hi (by omega)
      · exact ⟨r, loopF_inr e, hr⟩
  intro s hs
  exact key _ s hs (Nat.lt_succ_self _)

structure Ordr (le lt : Int → Int → Bool) : Prop where
  total : ∀ a b, (le a b || le b a) = true
  trans : ∀ a b c, le a b = true → le b c = true → le a c = true
  anti : ∀ a b, le a b = true → le b a = true → a = b
  agree : ∀ a b, le a b = true → lt b a = false

/-- x stands before y: the comparison tells their order -/
def Qp (le lt : Int → Int → Bool) (x y : Int) : Prop := le x y = true ∨ lt y x = true

theorem Ordr.rep {le lt : Int → Int → Bool} {P U U' S : List Int} (hq : (P ++ U ++ S).Pairwise (Qp le lt)) (hp : U'.Perm U) (hs : U'.Pairwise fun a b => le a b = true) : (P ++ U' ++ S).Pairwise (Qp le lt) := by
  simp only [List.pairwise_append, List.mem_append] at hq ⊢
  obtain ⟨⟨h1, h2, h3⟩, h4, h5⟩ := hq
  exact ⟨⟨h1, hs.imp fun h => .inl h, fun a ha b hb => h3 a ha b (hp.mem_iff.1 hb)⟩, h4, fun a ha b hb => h5 a (ha.imp id hp.mem_iff.1) b hb⟩

end Go.Sh.D
set_option linter.unusedVariables false
set_option linter.unusedSimpArgs false
namespace Go.Sh.D
open Go
end Go.Sh.D
set_option linter.unusedVariables false
set_option linter.unusedSimpArgs false
namespace Go.Sh.D
open Go
end Go.Sh.D
set_option linter.unusedVariables false
set_option linter.unusedSimpArgs false
namespace Go.Sh.D
open Go
end Go.Sh.D
set_option linter.unusedVariables false
set_option linter.unusedSimpArgs false
namespace Go.Sh.D
open Go
end Go.Sh.D
set_option linter.unusedVariables false
set_option linter.unusedSimpArgs false
namespace Go.Sh.D
open Go
end Go.Sh.D
set_option linter.unusedVariables false
set_option linter.unusedSimpArgs false
namespace Go.Sh.D
open Go
theorem lt_self (i : Int) : N.lt i i = false := by simp [N.lt]
theorem lt_tt {a b : Int} (h : a < b) : N.lt a b = true := by rw [lt_d]; exact decide_eq_true h
theorem lt_ff {a b : Int} (h : ¬ a < b) : N.lt a b = false := by rw [lt_d]; exact decide_eq_false h
theorem gt_tt {a b : Int} (h : b < a) : N.gt a b = true := by rw [gt_d]; exact decide_eq_true h
theorem gt_ff {a b : Int} (h : ¬ b < a) : N.gt a b = false := by rw [gt_d]; exact decide_eq_false h
theorem not_d (b : Bool) : N.not b = !b := rfl

end Go.Sh.D
set_option linter.unusedVariables false
set_option linter.unusedSimpArgs false
namespace Go.Sh.D
open Go
end Go.Sh.D
set_option linter.unusedVariables false
set_option linter.unusedSimpArgs false
namespace Go.Sh.D
open Go
end Go.Sh.D
set_option linter.unusedVariables false
set_option linter.unusedSimpArgs false
namespace Go.Sh.D
open Go Data
theorem cut_lo (l : List Int) (k : Nat) : N.cut l 0 (k : Int) = l.take k := by simp [N.cut]
theorem cut_hi (l : List Int) (k : Nat) : N.cut l (k : Int) ((l.length : Nat) : Int) = l.drop k := by simp [N.cut]

theorem setIn_perm (out : List Int) (k : Nat) (x : Int) : (out.take k ++ x :: out.drop k).Perm (x :: out) := by
  refine List.perm_middle.trans ?_
  rw [List.take_append_drop]

end Go.Sh.D
set_option linter.unusedVariables false
set_option linter.unusedSimpArgs false
namespace Go.Sh.D
open Go Data
end Go.Sh.D
set_option linter.unusedVariables false
set_option linter.unusedSimpArgs false
namespace Go.Sh.D
open Go Data
end Go.Sh.D
set_option linter.unusedVariables false
set_option linter.unusedSimpArgs false
namespace Go.Sh.D
open Go Data
end Go.Sh.D
set_option linter.unusedVariables false
set_option linter.unusedSimpArgs false
namespace Go.Sh.D
open Go Data
end Go.Sh.D
set_option linter.unusedVariables false
set_option linter.unusedSimpArgs false
namespace Go.Sh.D
open Go Data
end Go.Sh.D
set_option linter.unusedVariables false
set_option linter.unusedSimpArgs false
namespace Go.Sh.D
open Go Data
end Go.Sh.D
set_option linter.unusedVariables false
set_option linter.unusedSimpArgs false
namespace Go.Sh.D
open Go Data
end Go.Sh.D
set_option linter.unusedVariables false
set_option linter.unusedSimpArgs false
namespace Go.Sh.D
open Go Data
end Go.Sh.D
set_option linter.unusedVariables false
set_option linter.unusedSimpArgs false
namespace Go.Sh.D
open Go Data
/-! ## Proven by witnesses -/
theorem first_vals (keys : List Int) (d : Int) : ∀ (l : List Statement) (out : List Int), (∀ y ∈ out, y = -1 ∨ 0 ≤ y) → ∀ y ∈ l.foldl (fsStep keys d) out, y = -1 ∨ 0 ≤ y
  | [], out, h => h
  | s :: l, out, h => by
    rw [List.foldl_cons]
    refine first_vals keys d l _ fun y hy => ?_
    unfold fsStep at hy
    split at hy
    · rename_i hs
      rcases List.mem_or_eq_of_mem_set hy with hy | rfl
      · exact h y hy
      · right
        have := hs.1
        unfold isStatementP at this
        simp only [Bool.and_eq_true, decide_eq_true_eq] at this
        exact this.1.2.1
    · exact h y hy

theorem firstP_vals (keys : List Int) (l : List Statement) (d : Int) : ∀ y ∈ firstP keys l d, y = -1 ∨ 0 ≤ y :=
  first_vals keys d l _ fun y hy => .inl (List.eq_of_mem_replicate hy)

theorem impl_ProvenBy_is {keys : List Int} {l : List Statement} (hk : keys.length ≤ 1048576) (hl : l.length ≤ 1048576) (d k : Int) : impl_ProvenBy keys l d k = some (N.provenAt (firstP keys l d) k) := by
  unfold impl_ProvenBy
  rw [impl_FirstSeen_is hk hl, bind_some', nite_pos (by rw [len_d, first_len]; omega)]

theorem set_in_int (x : Int) (out : List Int) {T : Type} (j : Int) {step : Int → Option (Int ⊕ ((List Int × Int) ⊕ T))} {G : List Int × Int → Prop}
    (hs : out.Pairwise fun a b => a ≤ b) (hG : ∀ r : List Int, r.Perm (x :: out) → (r.Pairwise fun a b => a ≤ b) → G (r, j))
    (hgo : ∀ (k : Nat) (hk : k < out.length), step (((k + 1 : Nat)) : Int) = if x < out[k] then some (.inl (k : Int)) else some (.inr (.inl (out.take (k + 1) ++ x :: out.drop (k + 1), j))))
    (hend : step 0 = some (.inr (.inl (x :: out, j)))) : ∃ s', loopF step ((out.length : Nat) : Int) = some (.inl s') ∧ G s' := by
  have key := loop_meas (step := step) (fun s => ∃ k : Nat, s = (k : Int) ∧ k ≤ out.length ∧ ∀ y ∈ out.drop k, x ≤ y) (fun s => s.toNat)
    (fun r => ∃ q, r = .inl (q, j) ∧ q.Perm (x :: out) ∧ q.Pairwise fun a b => a ≤ b) (fun s hI => ?_) ((out.length : Nat) : Int) ⟨out.length, rfl, Nat.le_refl _, fun y hy => by simp at hy⟩
  · obtain ⟨r, h1, q, rfl, h2, h3⟩ := key
    exact ⟨_, h1, hG q h2 h3⟩
  · obtain ⟨k, rfl, hk, hd⟩ := hI
    cases k with
    | zero =>
      right
      refine ⟨_, hend, x :: out, rfl, List.Perm.refl _, List.pairwise_cons.2 ⟨?_, hs⟩⟩
      simpa using hd
    | succ k =>
      have hk' : k < out.length := by omega
      have hg := hgo k hk'
      have hdk : out.drop k = out[k] :: out.drop (k + 1) := List.drop_eq_getElem_cons hk'
      by_cases hle : x < out[k]
      · left
        rw [if_pos hle] at hg
        refine ⟨_, hg, ⟨k, rfl, by omega, fun y hy => ?_⟩, by simp⟩
        rw [hdk] at hy
        rcases List.mem_cons.1 hy with rfl | hy
        · omega
        · exact hd y hy
      · right
        rw [if_neg hle] at hg
        refine ⟨_, hg, _, rfl, setIn_perm out (k + 1) x, ?_⟩
        have hyx : out[k] ≤ x := by omega
        have hp := hs
        rw [← List.take_append_drop (k + 1) out, List.pairwise_append] at hp
        rw [List.pairwise_append]
        have hlow : ∀ y ∈ out.take (k + 1), y ≤ x := fun y hy => by
          rw [List.take_succ_eq_append_getElem hk', List.mem_append] at hy
          rcases hy with hy | hy
          · have h2 := hs
            rw [← List.take_append_drop k out, List.pairwise_append] at h2
            exact Int.le_trans (h2.2.2 y hy out[k] (by rw [hdk]; exact List.mem_cons_self)) hyx
          · obtain rfl : y = out[k] := by simpa using hy
            exact hyx
        refine ⟨hp.1, List.pairwise_cons.2 ⟨hd, hp.2.1⟩, fun p hp' q hq => ?_⟩
        rcases List.mem_cons.1 hq with rfl | hq
        · exact hlow p hp'
        · exact hp.2.2 p hp' q hq

theorem seen_asc (f : List Int) : (N.seen f).Pairwise fun a b => a ≤ b := by
  unfold N.seen
  have := List.pairwise_mergeSort (le := fun x y : Int => decide (x ≤ y)) (fun a b c h1 h2 => by simp only [decide_eq_true_eq] at *; omega) (fun a b => by simp only [Bool.or_eq_true, decide_eq_true_eq]; omega) (f.filter fun x => !decide (x = -1))
  exact this.imp fun h => of_decide_eq_true h
theorem seen_perm (f : List Int) : (N.seen f).Perm (f.filter fun x => !decide (x = -1)) := List.mergeSort_perm _ _
theorem seen_of {f r : List Int} (hp : r.Perm (f.filter fun x => !decide (x = -1))) (hs : r.Pairwise fun a b => a ≤ b) : r = N.seen f :=
  List.Perm.eq_of_pairwise (le := fun a b => a ≤ b) (fun a b _ _ h1 h2 => Int.le_antisymm h1 h2) hs (seen_asc f) (hp.trans (seen_perm f).symm)
theorem spec_ProvenBy_is {keys : List Int} {l : List Statement} (hk : keys.length ≤ 1048576) (hl : l.length ≤ 1048576) (d k : Int) : spec_ProvenBy keys l d k = some (N.provenAt (firstP keys l d) k) := by
  unfold spec_ProvenBy
  rw [spec_FirstSeen_is hk hl, bind_some']
  have hfl := first_len keys l d
  have hv := firstP_vals keys l d
  generalize firstP keys l d = f at *
  refine (fun (key : ∃ r, loopF _ _ = some r ∧ r = N.provenAt f k) => key.elim fun r h => h.2 ▸ h.1) (loop_meas (fun s => ∃ (out : List Int) (i : Nat), s = (out, (i : Int)) ∧ i ≤ f.length ∧ out.length ≤ i ∧ (out.Pairwise fun a b => a ≤ b) ∧ out.Perm ((f.take i).filter fun x => !decide (x = -1))) (fun s => f.length - s.2.toNat)
    (fun r => r = N.provenAt f k) (fun s hI => ?_) ([], 0) ⟨[], 0, rfl, by omega, by simp, List.Pairwise.nil, by simp⟩)
  obtain ⟨out, i, rfl, hi, hol, hs, hp⟩ := hI
  by_cases hlt : i < f.length
  · left
    have ht : f.take (i + 1) = f.take i ++ [f[i]] := List.take_succ_eq_append_getElem hlt
    have i1 : (i : Int) < (f.length : Int) := by omega
    have hnext : N.add .i64 (i : Int) 1 = ((i + 1 : Nat) : Int) := next_id hlt (by omega)
    simp only [lt_tt i1, cond_true, len_d, rd_at f i hlt, hnext]
    rw [nite_pos (by omega), nite_pos (by omega)]
    rcases hv f[i] (List.getElem_mem hlt) with hm1 | h0
    · refine ⟨(out, ((i + 1 : Nat) : Int)), by rw [lt_tt (by omega), cond_true], ⟨out, i + 1, rfl, by omega, by omega, hs, ?_⟩, by simp only [Int.toNat_natCast]; omega⟩
      rw [ht, List.filter_append, hm1]; simpa using hp
    · rw [lt_ff (show ¬ f[i] < 0 by omega), cond_false]
      have hne : f[i] ≠ -1 := by omega
      refine set_in_int f[i] out (T := Int) ((i + 1 : Nat) : Int) hs (fun r r2 r3 => ⟨⟨r, i + 1, rfl, by omega, by rw [r2.length_eq]; simp; omega, r3, ?_⟩, by simp only [Int.toNat_natCast]; omega⟩) (fun q hq => ?_) ?_
      · rw [ht, List.filter_append]
        refine r2.trans ?_
        have : ([f[i]].filter fun x => !decide (x = -1)) = [f[i]] := by simp [hne]
        rw [this]
        exact (List.Perm.cons _ hp).trans (List.perm_append_comm (l₁ := [f[i]]))
      · have e1 : N.sub .i64 ((q + 1 : Nat) : Int) 1 = (q : Int) := by rw [sub_id (by omega) (by omega)]; omega
        simp only [gt_tt (show (0 : Int) < ((q + 1 : Nat) : Int) by omega), cond_true, e1, rd_at out q hq, cut_lo, cut_hi, N.app, List.nil_append]
        rw [nite_pos (by omega), nite_pos (by omega), nite_pos (by omega), nite_pos (by omega)]
        by_cases hle : f[i] < out[q]
        · rw [gt_tt hle, cond_true, if_pos hle]
        · rw [gt_ff hle, cond_false, if_neg hle]
          rw [nite_pos (by omega), nite_pos (by omega), nite_pos (fits8 (by simp; omega)), nite_pos (by omega), nite_pos (by omega), nite_pos (fits8 (by simp; omega)), nite_pos (by omega), nite_pos (by omega), nite_pos (by omega), nite_pos (fits8 (by simp; omega))]
          simp
      · have ec : N.cut out 0 0 = [] := by simp [N.cut]
        have ec2 : N.cut out 0 ((out.length : Nat) : Int) = out := by simp [N.cut]
        simp only [gt_ff (show ¬ (0 : Int) < 0 by omega), cond_false, N.app, List.nil_append, ec, ec2]
        rw [nite_pos (by omega), nite_pos (by omega), nite_pos (fits8 (by simp)), nite_pos (by omega), nite_pos (by omega), nite_pos (fits8 (by simp)), nite_pos (by omega), nite_pos (by omega), nite_pos (by omega), nite_pos (fits8 (by simp; omega))]
        simp
  · right
    obtain rfl : i = f.length := by omega
    rw [List.take_length] at hp
    have ho := seen_of hp hs
    subst ho
    refine ⟨_, ?_, rfl⟩
    have e1 : N.sub .i64 (((N.seen f).length : Nat) : Int) 1 = ((N.seen f).length : Int) - 1 := sub_id (by omega) (by omega)
    simp only [len_d, lt_self, cond_false, e1]
    unfold N.provenAt
    rw [spec_l1In_is, bind_some']
    by_cases hk2 : 0 ≤ k ∧ k < ((N.seen f).length : Int)
    · rw [if_pos hk2, decide_eq_true (by omega), show N.not true = false from rfl, cond_false, nite_pos hk2.1, nite_pos hk2.2]; rfl
    · rw [if_neg hk2, decide_eq_false (by omega), show N.not false = true from rfl, cond_true]; rfl

theorem FnExactProvenBy_true (x : List Int) (y : List Statement) (z u : Int) (hx : bd x) (hy : bd y) (_ : bd z) (_ : bd u) : laws_FnExactProvenBy x y z u = some true := by
  unfold laws_FnExactProvenBy
  rw [gt_d, len_d, cond_dec]
  by_cases hb : (1048576 : Int) < (x.length : Int)
  · rw [if_pos hb]
  rw [if_neg hb]
  have hxl : x.length ≤ 1048576 := by omega
  have hk : ok x := ⟨hxl, fun v hv => hx.2 v hv⟩
  obtain ⟨s, e, hs⟩ := laws_szStatementS_is y 1048576 hy (by omega) (by omega)
  rw [e, bind_some', lt_d, cond_dec]
  rcases hs with hs | ⟨hk2, h0, h1⟩
  · rw [if_pos hs]
  rw [if_neg (by omega)]
  have hyl := hk2.1
  simp only [laws_toIntS_is _ hk, laws_toStatementS_is _ hk2, bind_some', spec_ProvenBy_is hxl hyl, impl_ProvenBy_is hxl hyl, laws_eqIntS_is _ _ hk, laws_eqStatementS_is _ _ hk2, ne_d]
  simp [N.not]
end Go.Sh.D
