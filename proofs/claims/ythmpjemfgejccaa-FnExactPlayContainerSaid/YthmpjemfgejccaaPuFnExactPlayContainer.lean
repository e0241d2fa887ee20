/- The native forms of the functions that FnExactPlayContainer reaches, and their pure laws: FnExactPlayContainer is true for every input of bounded parts. No condition beyond the bounds that every input keeps. -/
import Derived.Test.YthmpjemfgejccaaSh8
set_option linter.unusedVariables false
set_option maxRecDepth 100000
set_option maxHeartbeats 4000000
namespace Go.Sh
open Go
namespace N
def nostr : ByteArray := ByteArray.empty
def lit (l : List UInt8) : ByteArray := ⟨l.toArray⟩
def let_ {α R : Type} (x : α) (f : α → Option R) : Option R := f x
end N
namespace D
abbrev Op : Type := Int × Int × Int × Int
abbrev Address : Type := Int × Int × Int
abbrev Entry : Type := Int × Address × Int
abbrev Resource : Type := Int × (List Int) × Address
abbrev Capture : Type := Address × Int × Resource
abbrev Container : Type := (List Op) × (List Entry) × (List Capture) × Int
abbrev State : Type := Int × (List Int) × (List Int) × (List Int)
abbrev Played : Type := Int × Int × State
abbrev Want : Type := Int × Address
noncomputable def laws_szIntS (x0 : List Int) (x1 : Int) : Option (Int) :=
  N.cond (N.lt (N.sub .i64 x1 (N.len x0)) 0)
    (some (-1))
    (some (N.sub .i64 x1 (N.len x0)))

noncomputable def laws_toIntS (x0 : List Int) : Option (List Int) :=
  N.ite (0 ≤ N.len x0)
    (
      N.ite (N.room (N.len x0) 8)
        (
          loopF (fun (s1 : Int × List Int) =>
              N.cond (N.lt s1.1 (N.len x0))
                (
                  N.ite (0 ≤ s1.1)
                    (
                      N.ite (s1.1 < N.len x0)
                        (
                          N.ite (0 ≤ s1.1)
                            (
                              N.ite (s1.1 < N.len s1.2)
                                (some (.inl (N.add .i64 s1.1 1, N.set s1.2 s1.1 (N.rd x0 s1.1 0))))
                                none)
                            none)
                        none)
                    none)
                (some (.inr s1.2)))
            (0, N.rep (N.len x0) 0))
        none)
    none

noncomputable def laws_eqIntS (x0 : List Int) (x1 : List Int) : Option (Bool) :=
  N.cond (N.ne (N.len x0) (N.len x1))
    (some false)
    (
      loopF (fun (s1 : Int) =>
          N.cond (N.lt s1 (N.len x0))
            (
              N.ite (0 ≤ s1)
                (
                  N.ite (s1 < N.len x0)
                    (
                      N.ite (0 ≤ s1)
                        (
                          N.ite (s1 < N.len x1)
                            (
                              N.cond (N.ne (N.rd x0 s1 0) (N.rd x1 s1 0))
                                (some (.inr false))
                                (some (.inl (N.add .i64 s1 1))))
                            none)
                        none)
                    none)
                none)
            (some (.inr true)))
        0)

noncomputable def laws_markIntS (x0 : List Int) (x1 : Int) : Option (Int × (List Int)) :=
  loopF (fun (s1 : Int × Int × List Int) =>
      N.cond (N.lt s1.2.1 (N.len s1.2.2))
        (
          N.ite (0 ≤ s1.2.1)
            (
              N.ite (s1.2.1 < N.len s1.2.2)
                (some (.inl (N.add .i64 s1.1 1, N.add .i64 s1.2.1 1, N.set s1.2.2 s1.2.1 s1.1)))
                none)
            none)
        (some (.inr (s1.1, s1.2.2))))
    (x1, 0, x0)

noncomputable def laws_heldIntS (x0 : List Int) (x1 : Int) : Option (Int) :=
  loopF (fun (s1 : Int × Int) =>
      N.cond (N.lt s1.2 (N.len x0))
        (
          N.ite (0 ≤ s1.2)
            (
              N.ite (s1.2 < N.len x0)
                (
                  N.cond (N.ne (N.rd x0 s1.2 0) s1.1)
                    (some (.inr (-1)))
                    (some (.inl (N.add .i64 s1.1 1, N.add .i64 s1.2 1))))
                none)
            none)
        (some (.inr s1.1)))
    (x1, 0)

noncomputable def laws_szOpS (x0 : List Op) (x1 : Int) : Option (Int) :=
  N.cond (N.lt (N.sub .i64 x1 (N.len x0)) 0)
    (some (-1))
    (some (N.sub .i64 x1 (N.len x0)))

noncomputable def laws_toOp (x0 : Op) : Option (Op) :=
  some x0

noncomputable def laws_toOpS (x0 : List Op) : Option (List Op) :=
  N.ite (0 ≤ N.len x0)
    (
      N.ite (N.room (N.len x0) 32)
        (
          loopF (fun (s1 : Int × List Op) =>
              N.cond (N.lt s1.1 (N.len x0))
                (
                  N.ite (0 ≤ s1.1)
                    (
                      N.ite (s1.1 < N.len x0)
                        (
                          N.bind (laws_toOp (N.rd x0 s1.1 (0, 0, 0, 0))) fun r1 =>
                            N.ite (0 ≤ s1.1)
                              (
                                N.ite (s1.1 < N.len s1.2)
                                  (some (.inl (N.add .i64 s1.1 1, N.set s1.2 s1.1 r1)))
                                  none)
                              none)
                        none)
                    none)
                (some (.inr s1.2)))
            (0, N.rep (N.len x0) (0, 0, 0, 0)))
        none)
    none

noncomputable def spec_l1In (x0 : Int) (x1 : Int) (x2 : Int) : Option (Bool) :=
  N.cond (N.ge x0 x1)
    (some (N.le x0 x2))
    (some false)

noncomputable def spec_l10Ok (x0 : Op) : Option (Bool) :=
  N.bind (spec_l1In x0.2.1 0 3) fun r1 =>
    N.cond (N.not r1)
      (some false)
      (
        N.cond (N.eq x0.1 1)
          (
            N.bind (spec_l1In x0.2.2.1 1 9) fun r2 =>
              N.cond r2
                (
                  N.bind (spec_l1In x0.2.2.2 0 99) fun r3 =>
                    some r3)
                (some false))
          (
            N.cond (N.eq x0.1 2)
              (
                N.cond (N.eq x0.1 2)
                  (
                    N.cond (N.eq x0.2.2.1 0)
                      (some (N.eq x0.2.2.2 0))
                      (some false))
                  (
                    N.cond (N.eq x0.1 5)
                      (
                        N.bind (spec_l1In x0.2.2.1 0 3) fun r4 =>
                          N.cond r4
                            (
                              N.bind (spec_l1In x0.2.2.2 0 3) fun r5 =>
                                some r5)
                            (some false))
                      (
                        N.cond (N.eq x0.1 6)
                          (
                            N.bind (spec_l1In x0.2.2.1 0 3) fun r6 =>
                              N.cond r6
                                (some (N.eq x0.2.2.2 0))
                                (some false))
                          (
                            N.cond (N.eq x0.1 7)
                              (
                                N.bind (spec_l1In x0.2.2.1 1 3) fun r7 =>
                                  N.cond r7
                                    (some (N.eq x0.2.2.2 0))
                                    (some false))
                              (
                                N.cond (N.eq x0.1 8)
                                  (
                                    N.cond (N.eq x0.1 8)
                                      (
                                        N.bind (spec_l1In x0.2.2.1 0 2) fun r8 =>
                                          N.cond r8
                                            (some (N.eq x0.2.2.2 0))
                                            (some false))
                                      (some false))
                                  (
                                    N.cond (N.eq x0.1 9)
                                      (
                                        N.bind (spec_l1In x0.2.2.1 0 2) fun r9 =>
                                          N.cond r9
                                            (some (N.eq x0.2.2.2 0))
                                            (some false))
                                      (some false)))))))
              (
                N.cond (N.eq x0.1 3)
                  (
                    N.cond (N.eq x0.1 3)
                      (
                        N.cond (N.eq x0.2.2.1 0)
                          (some (N.eq x0.2.2.2 0))
                          (some false))
                      (
                        N.cond (N.eq x0.1 5)
                          (
                            N.bind (spec_l1In x0.2.2.1 0 3) fun r10 =>
                              N.cond r10
                                (
                                  N.bind (spec_l1In x0.2.2.2 0 3) fun r11 =>
                                    some r11)
                                (some false))
                          (
                            N.cond (N.eq x0.1 6)
                              (
                                N.bind (spec_l1In x0.2.2.1 0 3) fun r12 =>
                                  N.cond r12
                                    (some (N.eq x0.2.2.2 0))
                                    (some false))
                              (
                                N.cond (N.eq x0.1 7)
                                  (
                                    N.bind (spec_l1In x0.2.2.1 1 3) fun r13 =>
                                      N.cond r13
                                        (some (N.eq x0.2.2.2 0))
                                        (some false))
                                  (
                                    N.cond (N.eq x0.1 8)
                                      (
                                        N.cond (N.eq x0.1 8)
                                          (
                                            N.bind (spec_l1In x0.2.2.1 0 2) fun r14 =>
                                              N.cond r14
                                                (some (N.eq x0.2.2.2 0))
                                                (some false))
                                          (some false))
                                      (
                                        N.cond (N.eq x0.1 9)
                                          (
                                            N.bind (spec_l1In x0.2.2.1 0 2) fun r15 =>
                                              N.cond r15
                                                (some (N.eq x0.2.2.2 0))
                                                (some false))
                                          (some false)))))))
                  (
                    N.cond (N.eq x0.1 4)
                      (
                        N.cond (N.eq x0.2.2.1 0)
                          (some (N.eq x0.2.2.2 0))
                          (some false))
                      (
                        N.cond (N.eq x0.1 5)
                          (
                            N.bind (spec_l1In x0.2.2.1 0 3) fun r16 =>
                              N.cond r16
                                (
                                  N.bind (spec_l1In x0.2.2.2 0 3) fun r17 =>
                                    some r17)
                                (some false))
                          (
                            N.cond (N.eq x0.1 6)
                              (
                                N.bind (spec_l1In x0.2.2.1 0 3) fun r18 =>
                                  N.cond r18
                                    (some (N.eq x0.2.2.2 0))
                                    (some false))
                              (
                                N.cond (N.eq x0.1 7)
                                  (
                                    N.bind (spec_l1In x0.2.2.1 1 3) fun r19 =>
                                      N.cond r19
                                        (some (N.eq x0.2.2.2 0))
                                        (some false))
                                  (
                                    N.cond (N.eq x0.1 8)
                                      (
                                        N.cond (N.eq x0.1 8)
                                          (
                                            N.bind (spec_l1In x0.2.2.1 0 2) fun r20 =>
                                              N.cond r20
                                                (some (N.eq x0.2.2.2 0))
                                                (some false))
                                          (some false))
                                      (
                                        N.cond (N.eq x0.1 9)
                                          (
                                            N.bind (spec_l1In x0.2.2.1 0 2) fun r21 =>
                                              N.cond r21
                                                (some (N.eq x0.2.2.2 0))
                                                (some false))
                                          (some false))))))))))

noncomputable def spec_IsScript (x0 : List Op) : Option (Bool) :=
  loopF (fun (s1 : Int) =>
      N.cond (N.lt s1 (N.len x0))
        (
          N.ite (0 ≤ s1)
            (
              N.ite (s1 < N.len x0)
                (
                  N.bind (spec_l10Ok (N.rd x0 s1 (0, 0, 0, 0))) fun r1 =>
                    N.cond (N.not r1)
                      (some (.inr false))
                      (some (.inl (N.add .i64 s1 1))))
                none)
            none)
        (some (.inr (N.le (N.len x0) 16))))
    0

noncomputable def spec_l11Zeros (x0 : Int) : Option (List Int) :=
  loopF (fun (s1 : List Int × Int) =>
      N.cond (N.lt s1.2 x0)
        (
          N.ite (N.fits s1.1 [0] 8)
            (some (.inl (N.app s1.1 [0], N.add .i64 s1.2 1)))
            none)
        (some (.inr s1.1)))
    ([], 0)

noncomputable def spec_StartState : Option (Int × (List Int) × (List Int) × (List Int)) :=
  N.bind (spec_l11Zeros 4) fun r1 =>
    N.bind (spec_l11Zeros 3) fun r2 =>
      N.bind (spec_l11Zeros 4) fun r3 =>
        some (0, r1, r2, r3)

noncomputable def spec_IsDone (x0 : List Op) (x1 : State) : Option (Bool) :=
  some (N.ge x1.1 (N.len x0))

noncomputable def spec_l11All (x0 : List Int) (x1 : Int) : Option (Bool) :=
  loopF (fun (s1 : Int) =>
      N.cond (N.lt s1 (N.len x0))
        (
          N.ite (0 ≤ s1)
            (
              N.ite (s1 < N.len x0)
                (
                  N.bind (spec_l1In (N.rd x0 s1 0) 0 999) fun r1 =>
                    N.cond (N.not r1)
                      (some (.inr false))
                      (some (.inl (N.add .i64 s1 1))))
                none)
            none)
        (some (.inr (N.eq (N.len x0) x1))))
    0

noncomputable def spec_IsState (x0 : State) : Option (Bool) :=
  N.bind (spec_l1In x0.1 0 19) fun r1 =>
    N.cond r1
      (
        N.bind (spec_l11All x0.2.1 4) fun r2 =>
          N.cond r2
            (
              N.bind (spec_l11All x0.2.2.1 3) fun r3 =>
                N.cond r3
                  (
                    N.bind (spec_l11All x0.2.2.2 4) fun r4 =>
                      some r4)
                  (some false))
            (some false))
      (some false)

noncomputable def spec_l11Can (x0 : List Op) (x1 : State) : Option (Bool) :=
  N.bind (spec_IsScript x0) fun r1 =>
    N.cond r1
      (
        N.bind (spec_IsState x1) fun r2 =>
          N.cond r2
            (some (N.lt x1.1 (N.len x0)))
            (some false))
      (some false)

noncomputable def spec_Asks (x0 : Int) : Option (Bool) :=
  N.bind (spec_l1In x0 1 4) fun r1 =>
    some r1

noncomputable def spec_WantOf (x0 : List Op) (x1 : State) : Option (Want) :=
  N.bind (spec_l11Can x0 x1) fun r1 =>
    N.cond (N.not r1)
      (some (0, (0, 0, 0)))
      (
        N.ite (0 ≤ x1.1)
          (
            N.ite (x1.1 < N.len x0)
              (
                N.bind (spec_Asks ((N.rd x0 x1.1 (0, 0, 0, 0)).1)) fun r2 =>
                  N.cond (N.not r2)
                    (some (0, (0, 0, 0)))
                    (
                      N.ite (0 ≤ x1.1)
                        (
                          N.ite (x1.1 < N.len x0)
                            (
                              N.cond (N.eq ((N.rd x0 x1.1 (0, 0, 0, 0)).1) 1)
                                (
                                  N.ite (0 ≤ (N.rd x0 x1.1 (0, 0, 0, 0)).2.1)
                                    (
                                      N.ite ((N.rd x0 x1.1 (0, 0, 0, 0)).2.1 < N.len x1.2.1)
                                        (some ((N.rd x0 x1.1 (0, 0, 0, 0)).1, ((N.rd x0 x1.1 (0, 0, 0, 0)).2.2.1, (N.rd x0 x1.1 (0, 0, 0, 0)).2.2.2, N.rem (N.rd x1.2.1 ((N.rd x0 x1.1 (0, 0, 0, 0)).2.1) 0) 100)))
                                        none)
                                    none)
                                (some ((N.rd x0 x1.1 (0, 0, 0, 0)).1, (0, 0, 0))))
                            none)
                        none))
              none)
          none)

noncomputable def spec_l11Copy (x0 : State) : Option (Int × (List Int) × (List Int) × (List Int)) :=
  N.ite (N.fits [] x0.2.1 8)
    (
      N.ite (N.fits [] x0.2.2.1 8)
        (
          N.ite (N.fits [] x0.2.2.2 8)
            (some (x0.1, N.app [] x0.2.1, N.app [] x0.2.2.1, N.app [] x0.2.2.2))
            none)
        none)
    none

noncomputable def spec_Min (x0 : Int) (x1 : Int) : Option (Int) :=
  N.cond (N.lt x1 x0)
    (some x1)
    (some x0)

noncomputable def spec_Max (x0 : Int) (x1 : Int) : Option (Int) :=
  N.cond (N.gt x1 x0)
    (some x1)
    (some x0)

noncomputable def spec_StepState (x0 : List Op) (x1 : State) (x2 : Int) : Option (Int × (List Int) × (List Int) × (List Int)) :=
  N.bind (spec_l11Copy x1) fun r1 =>
    N.bind (spec_l11Can x0 x1) fun r2 =>
      N.cond (N.not r2)
        (some r1)
        (
          N.ite (0 ≤ x1.1)
            (
              N.ite (x1.1 < N.len x0)
                (
                  N.cond (N.eq ((N.rd x0 x1.1 (0, 0, 0, 0)).1) 5)
                    (
                      N.ite (0 ≤ (N.rd x0 x1.1 (0, 0, 0, 0)).2.2.1)
                        (
                          N.ite ((N.rd x0 x1.1 (0, 0, 0, 0)).2.2.1 < N.len x1.2.1)
                            (
                              N.ite (0 ≤ (N.rd x0 x1.1 (0, 0, 0, 0)).2.2.2)
                                (
                                  N.ite ((N.rd x0 x1.1 (0, 0, 0, 0)).2.2.2 < N.len x1.2.1)
                                    (
                                      N.ite (0 ≤ (N.rd x0 x1.1 (0, 0, 0, 0)).2.1)
                                        (
                                          N.ite ((N.rd x0 x1.1 (0, 0, 0, 0)).2.1 < N.len r1.2.1)
                                            (
                                              N.let_ (N.set r1.2.1 ((N.rd x0 x1.1 (0, 0, 0, 0)).2.1) (N.rem (N.add .i64 (N.rd x1.2.1 ((N.rd x0 x1.1 (0, 0, 0, 0)).2.2.1) 0) (N.rd x1.2.1 ((N.rd x0 x1.1 (0, 0, 0, 0)).2.2.2) 0)) 1000)) fun v1 =>
                                                some (N.add .i64 x1.1 1, v1, r1.2.2.1, r1.2.2.2))
                                            none)
                                        none)
                                    none)
                                none)
                            none)
                        none)
                    (
                      N.cond (N.eq ((N.rd x0 x1.1 (0, 0, 0, 0)).1) 6)
                        (
                          N.ite (0 ≤ (N.rd x0 x1.1 (0, 0, 0, 0)).2.1)
                            (
                              N.ite ((N.rd x0 x1.1 (0, 0, 0, 0)).2.1 < N.len x1.2.1)
                                (
                                  N.ite (0 ≤ (N.rd x0 x1.1 (0, 0, 0, 0)).2.2.1)
                                    (
                                      N.ite ((N.rd x0 x1.1 (0, 0, 0, 0)).2.2.1 < N.len r1.2.2.2)
                                        (
                                          N.let_ (N.set r1.2.2.2 ((N.rd x0 x1.1 (0, 0, 0, 0)).2.2.1) (N.rd x1.2.1 ((N.rd x0 x1.1 (0, 0, 0, 0)).2.1) 0)) fun v2 =>
                                            some (N.add .i64 x1.1 1, r1.2.1, r1.2.2.1, v2))
                                        none)
                                    none)
                                none)
                            none)
                        (
                          N.cond (N.eq ((N.rd x0 x1.1 (0, 0, 0, 0)).1) 7)
                            (
                              N.ite (0 ≤ (N.rd x0 x1.1 (0, 0, 0, 0)).2.1)
                                (
                                  N.ite ((N.rd x0 x1.1 (0, 0, 0, 0)).2.1 < N.len x1.2.1)
                                    (
                                      N.cond (N.eq (N.rem (N.rd x1.2.1 ((N.rd x0 x1.1 (0, 0, 0, 0)).2.1) 0) 2) 0)
                                        (some (N.add .i64 (N.add .i64 x1.1 1) ((N.rd x0 x1.1 (0, 0, 0, 0)).2.2.1), r1.2.1, r1.2.2.1, r1.2.2.2))
                                        (some (N.add .i64 x1.1 1, r1.2.1, r1.2.2.1, r1.2.2.2)))
                                    none)
                                none)
                            (
                              N.cond (N.eq ((N.rd x0 x1.1 (0, 0, 0, 0)).1) 8)
                                (
                                  N.ite (0 ≤ (N.rd x0 x1.1 (0, 0, 0, 0)).2.2.1)
                                    (
                                      N.ite ((N.rd x0 x1.1 (0, 0, 0, 0)).2.2.1 < N.len x1.2.2.1)
                                        (
                                          N.ite (0 ≤ (N.rd x0 x1.1 (0, 0, 0, 0)).2.1)
                                            (
                                              N.ite ((N.rd x0 x1.1 (0, 0, 0, 0)).2.1 < N.len r1.2.1)
                                                (
                                                  N.let_ (N.set r1.2.1 ((N.rd x0 x1.1 (0, 0, 0, 0)).2.1) (N.rd x1.2.2.1 ((N.rd x0 x1.1 (0, 0, 0, 0)).2.2.1) 0)) fun v3 =>
                                                    some (N.add .i64 x1.1 1, v3, r1.2.2.1, r1.2.2.2))
                                                none)
                                            none)
                                        none)
                                    none)
                                (
                                  N.cond (N.eq ((N.rd x0 x1.1 (0, 0, 0, 0)).1) 9)
                                    (
                                      N.ite (0 ≤ (N.rd x0 x1.1 (0, 0, 0, 0)).2.1)
                                        (
                                          N.ite ((N.rd x0 x1.1 (0, 0, 0, 0)).2.1 < N.len x1.2.1)
                                            (
                                              N.ite (0 ≤ (N.rd x0 x1.1 (0, 0, 0, 0)).2.2.1)
                                                (
                                                  N.ite ((N.rd x0 x1.1 (0, 0, 0, 0)).2.2.1 < N.len r1.2.2.1)
                                                    (
                                                      N.let_ (N.set r1.2.2.1 ((N.rd x0 x1.1 (0, 0, 0, 0)).2.2.1) (N.rd x1.2.1 ((N.rd x0 x1.1 (0, 0, 0, 0)).2.1) 0)) fun v4 =>
                                                        some (N.add .i64 x1.1 1, r1.2.1, v4, r1.2.2.2))
                                                    none)
                                                none)
                                            none)
                                        none)
                                    (
                                      N.bind (spec_Min 999 x2) fun r3 =>
                                        N.bind (spec_Max 0 r3) fun r4 =>
                                          N.ite (0 ≤ (N.rd x0 x1.1 (0, 0, 0, 0)).2.1)
                                            (
                                              N.ite ((N.rd x0 x1.1 (0, 0, 0, 0)).2.1 < N.len r1.2.1)
                                                (
                                                  N.let_ (N.set r1.2.1 ((N.rd x0 x1.1 (0, 0, 0, 0)).2.1) r4) fun v5 =>
                                                    some (N.add .i64 x1.1 1, v5, r1.2.2.1, r1.2.2.2))
                                                none)
                                            none))))))
                none)
            none)

noncomputable def spec_IsAddress (x0 : Address) : Option (Bool) :=
  N.bind (spec_l1In x0.1 1 9) fun r1 =>
    N.cond r1
      (
        N.bind (spec_l1In x0.2.1 0 99) fun r2 =>
          N.cond r2
            (
              N.bind (spec_l1In x0.2.2 0 99) fun r3 =>
                some r3)
            (some false))
      (some false)

noncomputable def spec_AreEntries (x0 : List Entry) : Option (Bool) :=
  loopF (fun (s1 : Int) =>
      N.cond (N.lt s1 (N.len x0))
        (
          N.ite (0 ≤ s1)
            (
              N.ite (s1 < N.len x0)
                (
                  N.bind (spec_Asks ((N.rd x0 s1 (0, (0, 0, 0), 0)).1)) fun r1 =>
                    N.cond (N.not r1)
                      (some (.inr false))
                      (
                        N.bind (spec_l1In ((N.rd x0 s1 (0, (0, 0, 0), 0)).2.2) 0 999) fun r2 =>
                          N.cond (N.not r2)
                            (some (.inr false))
                            (
                              N.cond (N.eq ((N.rd x0 s1 (0, (0, 0, 0), 0)).1) 1)
                                (
                                  N.bind (spec_IsAddress ((N.rd x0 s1 (0, (0, 0, 0), 0)).2.1)) fun r3 =>
                                    N.cond (N.not r3)
                                      (some (.inr false))
                                      (
                                        N.cond (N.ne ((N.rd x0 s1 (0, (0, 0, 0), 0)).1) 1)
                                          (
                                            N.cond (N.not (N.both (N.eq (((N.rd x0 s1 (0, (0, 0, 0), 0)).2.1).1) 0) (N.both (N.eq (((N.rd x0 s1 (0, (0, 0, 0), 0)).2.1).2.1) 0) (N.eq (((N.rd x0 s1 (0, (0, 0, 0), 0)).2.1).2.2) 0))))
                                              (some (.inr false))
                                              (some (.inl (N.add .i64 s1 1))))
                                          (some (.inl (N.add .i64 s1 1)))))
                                (
                                  N.cond (N.ne ((N.rd x0 s1 (0, (0, 0, 0), 0)).1) 1)
                                    (
                                      N.cond (N.not (N.both (N.eq (((N.rd x0 s1 (0, (0, 0, 0), 0)).2.1).1) 0) (N.both (N.eq (((N.rd x0 s1 (0, (0, 0, 0), 0)).2.1).2.1) 0) (N.eq (((N.rd x0 s1 (0, (0, 0, 0), 0)).2.1).2.2) 0))))
                                        (some (.inr false))
                                        (some (.inl (N.add .i64 s1 1))))
                                    (some (.inl (N.add .i64 s1 1)))))))
                none)
            none)
        (some (.inr (N.le (N.len x0) 16))))
    0

noncomputable def impl_at (x0 : Int) (x1 : Int) : Option (Bool) :=
  N.cond (N.ge x0 0)
    (some (N.lt x0 x1))
    (some false)

noncomputable def impl_InRange (x0 : Int) (x1 : Int) (x2 : Int) : Option (Bool) :=
  N.cond (N.le x1 x0)
    (some (N.le x0 x2))
    (some false)

noncomputable def impl_isOp (x0 : Op) : Option (Bool) :=
  N.bind (impl_at x0.2.1 4) fun r1 =>
    N.cond (N.not r1)
      (some false)
      (
        N.cond (N.eq x0.1 1)
          (
            N.bind (impl_InRange x0.2.2.1 1 9) fun r2 =>
              N.cond r2
                (
                  N.bind (impl_InRange x0.2.2.2 0 99) fun r3 =>
                    some r3)
                (some false))
          (
            N.cond (N.eq x0.1 2)
              (
                N.cond (N.eq x0.1 2)
                  (
                    N.cond (N.eq x0.2.2.1 0)
                      (some (N.eq x0.2.2.2 0))
                      (some false))
                  (
                    N.cond (N.eq x0.1 5)
                      (
                        N.bind (impl_at x0.2.2.1 4) fun r4 =>
                          N.cond r4
                            (
                              N.bind (impl_at x0.2.2.2 4) fun r5 =>
                                some r5)
                            (some false))
                      (
                        N.cond (N.eq x0.1 6)
                          (
                            N.bind (impl_at x0.2.2.1 4) fun r6 =>
                              N.cond r6
                                (some (N.eq x0.2.2.2 0))
                                (some false))
                          (
                            N.cond (N.eq x0.1 7)
                              (
                                N.bind (impl_InRange x0.2.2.1 1 3) fun r7 =>
                                  N.cond r7
                                    (some (N.eq x0.2.2.2 0))
                                    (some false))
                              (
                                N.cond (N.eq x0.1 8)
                                  (
                                    N.cond (N.eq x0.1 8)
                                      (
                                        N.bind (impl_at x0.2.2.1 3) fun r8 =>
                                          N.cond r8
                                            (some (N.eq x0.2.2.2 0))
                                            (some false))
                                      (some false))
                                  (
                                    N.cond (N.eq x0.1 9)
                                      (
                                        N.bind (impl_at x0.2.2.1 3) fun r9 =>
                                          N.cond r9
                                            (some (N.eq x0.2.2.2 0))
                                            (some false))
                                      (some false)))))))
              (
                N.cond (N.eq x0.1 3)
                  (
                    N.cond (N.eq x0.1 3)
                      (
                        N.cond (N.eq x0.2.2.1 0)
                          (some (N.eq x0.2.2.2 0))
                          (some false))
                      (
                        N.cond (N.eq x0.1 5)
                          (
                            N.bind (impl_at x0.2.2.1 4) fun r10 =>
                              N.cond r10
                                (
                                  N.bind (impl_at x0.2.2.2 4) fun r11 =>
                                    some r11)
                                (some false))
                          (
                            N.cond (N.eq x0.1 6)
                              (
                                N.bind (impl_at x0.2.2.1 4) fun r12 =>
                                  N.cond r12
                                    (some (N.eq x0.2.2.2 0))
                                    (some false))
                              (
                                N.cond (N.eq x0.1 7)
                                  (
                                    N.bind (impl_InRange x0.2.2.1 1 3) fun r13 =>
                                      N.cond r13
                                        (some (N.eq x0.2.2.2 0))
                                        (some false))
                                  (
                                    N.cond (N.eq x0.1 8)
                                      (
                                        N.cond (N.eq x0.1 8)
                                          (
                                            N.bind (impl_at x0.2.2.1 3) fun r14 =>
                                              N.cond r14
                                                (some (N.eq x0.2.2.2 0))
                                                (some false))
                                          (some false))
                                      (
                                        N.cond (N.eq x0.1 9)
                                          (
                                            N.bind (impl_at x0.2.2.1 3) fun r15 =>
                                              N.cond r15
                                                (some (N.eq x0.2.2.2 0))
                                                (some false))
                                          (some false)))))))
                  (
                    N.cond (N.eq x0.1 4)
                      (
                        N.cond (N.eq x0.2.2.1 0)
                          (some (N.eq x0.2.2.2 0))
                          (some false))
                      (
                        N.cond (N.eq x0.1 5)
                          (
                            N.bind (impl_at x0.2.2.1 4) fun r16 =>
                              N.cond r16
                                (
                                  N.bind (impl_at x0.2.2.2 4) fun r17 =>
                                    some r17)
                                (some false))
                          (
                            N.cond (N.eq x0.1 6)
                              (
                                N.bind (impl_at x0.2.2.1 4) fun r18 =>
                                  N.cond r18
                                    (some (N.eq x0.2.2.2 0))
                                    (some false))
                              (
                                N.cond (N.eq x0.1 7)
                                  (
                                    N.bind (impl_InRange x0.2.2.1 1 3) fun r19 =>
                                      N.cond r19
                                        (some (N.eq x0.2.2.2 0))
                                        (some false))
                                  (
                                    N.cond (N.eq x0.1 8)
                                      (
                                        N.cond (N.eq x0.1 8)
                                          (
                                            N.bind (impl_at x0.2.2.1 3) fun r20 =>
                                              N.cond r20
                                                (some (N.eq x0.2.2.2 0))
                                                (some false))
                                          (some false))
                                      (
                                        N.cond (N.eq x0.1 9)
                                          (
                                            N.bind (impl_at x0.2.2.1 3) fun r21 =>
                                              N.cond r21
                                                (some (N.eq x0.2.2.2 0))
                                                (some false))
                                          (some false))))))))))

noncomputable def impl_IsScript_1 (x0 : Op) : Option (Bool) :=
  N.bind (impl_isOp x0) fun r1 =>
    some (N.not r1)

noncomputable def slices_IndexFunc_Op_impl_IsScript_1 (x0 : List Op) : Option (Int) :=
  loopF (fun (s1 : Int) =>
      N.cond (N.lt s1 (N.len x0))
        (
          N.ite (0 ≤ s1)
            (
              N.ite (s1 < N.len x0)
                (
                  N.bind (impl_IsScript_1 (N.rd x0 s1 (0, 0, 0, 0))) fun r1 =>
                    N.cond r1
                      (some (.inr s1))
                      (some (.inl (N.add .i64 s1 1))))
                none)
            none)
        (some (.inr (-1))))
    0

noncomputable def slices_ContainsFunc_Op_impl_IsScript_1 (x0 : List Op) : Option (Bool) :=
  N.bind (slices_IndexFunc_Op_impl_IsScript_1 x0) fun r1 =>
    some (N.ge r1 0)

noncomputable def impl_IsScript (x0 : List Op) : Option (Bool) :=
  N.cond (N.le (N.len x0) 16)
    (
      N.bind (slices_ContainsFunc_Op_impl_IsScript_1 x0) fun r1 =>
        some (N.not r1))
    (some false)

noncomputable def impl_StartState : Option (Int × (List Int) × (List Int) × (List Int)) :=
  some (0, N.rep 4 0, N.rep 3 0, N.rep 4 0)

noncomputable def impl_IsDone (x0 : List Op) (x1 : State) : Option (Bool) :=
  some (N.ge x1.1 (N.len x0))

noncomputable def impl_allIn (x0 : List Int) (x1 : Int) (x2 : Int) : Option (Bool) :=
  loopF (fun (s1 : Int) =>
      N.cond (N.lt s1 (N.len x0))
        (
          N.ite (0 ≤ s1)
            (
              N.ite (s1 < N.len x0)
                (
                  N.bind (impl_InRange (N.rd x0 s1 0) x1 x2) fun r1 =>
                    N.cond (N.not r1)
                      (some (.inr false))
                      (some (.inl (N.add .i64 s1 1))))
                none)
            none)
        (some (.inr true)))
    0

noncomputable def impl_IsState (x0 : State) : Option (Bool) :=
  N.bind (impl_InRange x0.1 0 19) fun r1 =>
    N.cond r1
      (
        N.cond (N.eq (N.len x0.2.1) 4)
          (
            N.cond (N.eq (N.len x0.2.2.1) 3)
              (
                N.cond (N.eq (N.len x0.2.2.2) 4)
                  (
                    N.bind (impl_allIn x0.2.1 0 999) fun r2 =>
                      N.cond r2
                        (
                          N.bind (impl_allIn x0.2.2.1 0 999) fun r3 =>
                            N.cond r3
                              (
                                N.bind (impl_allIn x0.2.2.2 0 999) fun r4 =>
                                  some r4)
                              (some false))
                        (some false))
                  (some false))
              (some false))
          (some false))
      (some false)

noncomputable def impl_canStep (x0 : List Op) (x1 : State) : Option (Bool) :=
  N.bind (impl_IsScript x0) fun r1 =>
    N.cond r1
      (
        N.bind (impl_IsState x1) fun r2 =>
          N.cond r2
            (some (N.lt x1.1 (N.len x0)))
            (some false))
      (some false)

noncomputable def impl_Asks (x0 : Int) : Option (Bool) :=
  N.bind (impl_InRange x0 1 4) fun r1 =>
    some r1

noncomputable def impl_WantOf (x0 : List Op) (x1 : State) : Option (Want) :=
  N.bind (impl_canStep x0 x1) fun r1 =>
    N.cond (N.not r1)
      (some (0, (0, 0, 0)))
      (
        N.ite (0 ≤ x1.1)
          (
            N.ite (x1.1 < N.len x0)
              (
                N.bind (impl_Asks ((N.rd x0 x1.1 (0, 0, 0, 0)).1)) fun r2 =>
                  N.cond (N.not r2)
                    (some (0, (0, 0, 0)))
                    (
                      N.ite (0 ≤ x1.1)
                        (
                          N.ite (x1.1 < N.len x0)
                            (
                              N.cond (N.eq ((N.rd x0 x1.1 (0, 0, 0, 0)).1) 1)
                                (
                                  N.ite (0 ≤ (N.rd x0 x1.1 (0, 0, 0, 0)).2.1)
                                    (
                                      N.ite ((N.rd x0 x1.1 (0, 0, 0, 0)).2.1 < N.len x1.2.1)
                                        (some ((N.rd x0 x1.1 (0, 0, 0, 0)).1, ((N.rd x0 x1.1 (0, 0, 0, 0)).2.2.1, (N.rd x0 x1.1 (0, 0, 0, 0)).2.2.2, N.rem (N.rd x1.2.1 ((N.rd x0 x1.1 (0, 0, 0, 0)).2.1) 0) 100)))
                                        none)
                                    none)
                                (some ((N.rd x0 x1.1 (0, 0, 0, 0)).1, (0, 0, 0))))
                            none)
                        none))
              none)
          none)

noncomputable def slices_Clone_int (x0 : List Int) : Option (List Int) :=
  N.nilc (N.isE x0)
    (some [])
    (
      N.ite (N.fits [] x0 8)
        (some (N.app [] x0))
        none)

noncomputable def impl_copyState (x0 : State) : Option (Int × (List Int) × (List Int) × (List Int)) :=
  N.bind (slices_Clone_int x0.2.1) fun r1 =>
    N.bind (slices_Clone_int x0.2.2.1) fun r2 =>
      N.bind (slices_Clone_int x0.2.2.2) fun r3 =>
        some (x0.1, r1, r2, r3)

noncomputable def impl_StepState (x0 : List Op) (x1 : State) (x2 : Int) : Option (Int × (List Int) × (List Int) × (List Int)) :=
  N.bind (impl_copyState x1) fun r1 =>
    N.bind (impl_canStep x0 x1) fun r2 =>
      N.cond (N.not r2)
        (some r1)
        (
          N.ite (0 ≤ x1.1)
            (
              N.ite (x1.1 < N.len x0)
                (
                  N.cond (N.eq ((N.rd x0 x1.1 (0, 0, 0, 0)).1) 5)
                    (
                      N.ite (0 ≤ (N.rd x0 x1.1 (0, 0, 0, 0)).2.2.1)
                        (
                          N.ite ((N.rd x0 x1.1 (0, 0, 0, 0)).2.2.1 < N.len x1.2.1)
                            (
                              N.ite (0 ≤ (N.rd x0 x1.1 (0, 0, 0, 0)).2.2.2)
                                (
                                  N.ite ((N.rd x0 x1.1 (0, 0, 0, 0)).2.2.2 < N.len x1.2.1)
                                    (
                                      N.ite (0 ≤ (N.rd x0 x1.1 (0, 0, 0, 0)).2.1)
                                        (
                                          N.ite ((N.rd x0 x1.1 (0, 0, 0, 0)).2.1 < N.len r1.2.1)
                                            (
                                              N.let_ (N.set r1.2.1 ((N.rd x0 x1.1 (0, 0, 0, 0)).2.1) (N.rem (N.add .i64 (N.rd x1.2.1 ((N.rd x0 x1.1 (0, 0, 0, 0)).2.2.1) 0) (N.rd x1.2.1 ((N.rd x0 x1.1 (0, 0, 0, 0)).2.2.2) 0)) 1000)) fun v1 =>
                                                some (N.add .i64 r1.1 1, v1, r1.2.2.1, r1.2.2.2))
                                            none)
                                        none)
                                    none)
                                none)
                            none)
                        none)
                    (
                      N.cond (N.eq ((N.rd x0 x1.1 (0, 0, 0, 0)).1) 6)
                        (
                          N.ite (0 ≤ (N.rd x0 x1.1 (0, 0, 0, 0)).2.1)
                            (
                              N.ite ((N.rd x0 x1.1 (0, 0, 0, 0)).2.1 < N.len x1.2.1)
                                (
                                  N.ite (0 ≤ (N.rd x0 x1.1 (0, 0, 0, 0)).2.2.1)
                                    (
                                      N.ite ((N.rd x0 x1.1 (0, 0, 0, 0)).2.2.1 < N.len r1.2.2.2)
                                        (
                                          N.let_ (N.set r1.2.2.2 ((N.rd x0 x1.1 (0, 0, 0, 0)).2.2.1) (N.rd x1.2.1 ((N.rd x0 x1.1 (0, 0, 0, 0)).2.1) 0)) fun v2 =>
                                            some (N.add .i64 r1.1 1, r1.2.1, r1.2.2.1, v2))
                                        none)
                                    none)
                                none)
                            none)
                        (
                          N.cond (N.eq ((N.rd x0 x1.1 (0, 0, 0, 0)).1) 7)
                            (
                              N.ite (0 ≤ (N.rd x0 x1.1 (0, 0, 0, 0)).2.1)
                                (
                                  N.ite ((N.rd x0 x1.1 (0, 0, 0, 0)).2.1 < N.len x1.2.1)
                                    (
                                      N.cond (N.eq (N.rem (N.rd x1.2.1 ((N.rd x0 x1.1 (0, 0, 0, 0)).2.1) 0) 2) 0)
                                        (some (N.add .i64 (N.add .i64 r1.1 1) ((N.rd x0 x1.1 (0, 0, 0, 0)).2.2.1), r1.2.1, r1.2.2.1, r1.2.2.2))
                                        (some (N.add .i64 r1.1 1, r1.2.1, r1.2.2.1, r1.2.2.2)))
                                    none)
                                none)
                            (
                              N.cond (N.eq ((N.rd x0 x1.1 (0, 0, 0, 0)).1) 8)
                                (
                                  N.ite (0 ≤ (N.rd x0 x1.1 (0, 0, 0, 0)).2.2.1)
                                    (
                                      N.ite ((N.rd x0 x1.1 (0, 0, 0, 0)).2.2.1 < N.len x1.2.2.1)
                                        (
                                          N.ite (0 ≤ (N.rd x0 x1.1 (0, 0, 0, 0)).2.1)
                                            (
                                              N.ite ((N.rd x0 x1.1 (0, 0, 0, 0)).2.1 < N.len r1.2.1)
                                                (
                                                  N.let_ (N.set r1.2.1 ((N.rd x0 x1.1 (0, 0, 0, 0)).2.1) (N.rd x1.2.2.1 ((N.rd x0 x1.1 (0, 0, 0, 0)).2.2.1) 0)) fun v3 =>
                                                    some (N.add .i64 r1.1 1, v3, r1.2.2.1, r1.2.2.2))
                                                none)
                                            none)
                                        none)
                                    none)
                                (
                                  N.cond (N.eq ((N.rd x0 x1.1 (0, 0, 0, 0)).1) 9)
                                    (
                                      N.ite (0 ≤ (N.rd x0 x1.1 (0, 0, 0, 0)).2.1)
                                        (
                                          N.ite ((N.rd x0 x1.1 (0, 0, 0, 0)).2.1 < N.len x1.2.1)
                                            (
                                              N.ite (0 ≤ (N.rd x0 x1.1 (0, 0, 0, 0)).2.2.1)
                                                (
                                                  N.ite ((N.rd x0 x1.1 (0, 0, 0, 0)).2.2.1 < N.len r1.2.2.1)
                                                    (
                                                      N.let_ (N.set r1.2.2.1 ((N.rd x0 x1.1 (0, 0, 0, 0)).2.2.1) (N.rd x1.2.1 ((N.rd x0 x1.1 (0, 0, 0, 0)).2.1) 0)) fun v4 =>
                                                        some (N.add .i64 r1.1 1, r1.2.1, v4, r1.2.2.2))
                                                    none)
                                                none)
                                            none)
                                        none)
                                    (
                                      N.ite (0 ≤ (N.rd x0 x1.1 (0, 0, 0, 0)).2.1)
                                        (
                                          N.ite ((N.rd x0 x1.1 (0, 0, 0, 0)).2.1 < N.len r1.2.1)
                                            (
                                              N.let_ (N.set r1.2.1 ((N.rd x0 x1.1 (0, 0, 0, 0)).2.1) (N.min (N.max x2 0) 999)) fun v5 =>
                                                some (N.add .i64 r1.1 1, v5, r1.2.2.1, r1.2.2.2))
                                            none)
                                        none))))))
                none)
            none)

noncomputable def impl_IsAddress (x0 : Address) : Option (Bool) :=
  N.bind (impl_InRange x0.1 1 9) fun r1 =>
    N.cond r1
      (
        N.bind (impl_InRange x0.2.1 0 99) fun r2 =>
          N.cond r2
            (
              N.bind (impl_InRange x0.2.2 0 99) fun r3 =>
                some r3)
            (some false))
      (some false)

noncomputable def impl_AreEntries_1 (x0 : Entry) : Option (Bool) :=
  N.cond (N.eq x0.1 1)
    (
      N.bind (impl_IsAddress x0.2.1) fun r1 =>
        N.cond (N.not r1)
          (some true)
          (
            N.bind (impl_InRange x0.2.2 0 999) fun r2 =>
              some (N.not r2)))
    (
      N.bind (impl_Asks x0.1) fun r3 =>
        N.cond (N.not r3)
          (some true)
          (
            N.cond (N.not (N.both (N.eq x0.2.1.1 0) (N.both (N.eq x0.2.1.2.1 0) (N.eq x0.2.1.2.2 0))))
              (some true)
              (
                N.bind (impl_InRange x0.2.2 0 999) fun r4 =>
                  some (N.not r4))))

noncomputable def slices_IndexFunc_Entry_impl_AreEntries_1 (x0 : List Entry) : Option (Int) :=
  loopF (fun (s1 : Int) =>
      N.cond (N.lt s1 (N.len x0))
        (
          N.ite (0 ≤ s1)
            (
              N.ite (s1 < N.len x0)
                (
                  N.bind (impl_AreEntries_1 (N.rd x0 s1 (0, (0, 0, 0), 0))) fun r1 =>
                    N.cond r1
                      (some (.inr s1))
                      (some (.inl (N.add .i64 s1 1))))
                none)
            none)
        (some (.inr (-1))))
    0

noncomputable def slices_ContainsFunc_Entry_impl_AreEntries_1 (x0 : List Entry) : Option (Bool) :=
  N.bind (slices_IndexFunc_Entry_impl_AreEntries_1 x0) fun r1 =>
    some (N.ge r1 0)

noncomputable def impl_AreEntries (x0 : List Entry) : Option (Bool) :=
  N.cond (N.le (N.len x0) 16)
    (
      N.bind (slices_ContainsFunc_Entry_impl_AreEntries_1 x0) fun r1 =>
        some (N.not r1))
    (some false)

noncomputable def laws_eqAddress (x0 : Address) (x1 : Address) : Option (Bool) :=
  N.cond (N.ne x0.1 x1.1)
    (some false)
    (
      N.cond (N.ne x0.2.1 x1.2.1)
        (some false)
        (
          N.cond (N.ne x0.2.2 x1.2.2)
            (some false)
            (some true)))

noncomputable def laws_eqEntry (x0 : Entry) (x1 : Entry) : Option (Bool) :=
  N.cond (N.ne x0.1 x1.1)
    (some false)
    (
      N.bind (laws_eqAddress x0.2.1 x1.2.1) fun r1 =>
        N.cond (N.not r1)
          (some false)
          (
            N.cond (N.ne x0.2.2 x1.2.2)
              (some false)
              (some true)))

noncomputable def laws_eqEntryS (x0 : List Entry) (x1 : List Entry) : Option (Bool) :=
  N.cond (N.ne (N.len x0) (N.len x1))
    (some false)
    (
      loopF (fun (s1 : Int) =>
          N.cond (N.lt s1 (N.len x0))
            (
              N.ite (0 ≤ s1)
                (
                  N.ite (s1 < N.len x0)
                    (
                      N.ite (0 ≤ s1)
                        (
                          N.ite (s1 < N.len x1)
                            (
                              N.bind (laws_eqEntry (N.rd x0 s1 (0, (0, 0, 0), 0)) (N.rd x1 s1 (0, (0, 0, 0), 0))) fun r1 =>
                                N.cond (N.not r1)
                                  (some (.inr false))
                                  (some (.inl (N.add .i64 s1 1))))
                            none)
                        none)
                    none)
                none)
            (some (.inr true)))
        0)

noncomputable def laws_eqOp (x0 : Op) (x1 : Op) : Option (Bool) :=
  N.cond (N.ne x0.1 x1.1)
    (some false)
    (
      N.cond (N.ne x0.2.1 x1.2.1)
        (some false)
        (
          N.cond (N.ne x0.2.2.1 x1.2.2.1)
            (some false)
            (
              N.cond (N.ne x0.2.2.2 x1.2.2.2)
                (some false)
                (some true))))

noncomputable def laws_eqOpS (x0 : List Op) (x1 : List Op) : Option (Bool) :=
  N.cond (N.ne (N.len x0) (N.len x1))
    (some false)
    (
      loopF (fun (s1 : Int) =>
          N.cond (N.lt s1 (N.len x0))
            (
              N.ite (0 ≤ s1)
                (
                  N.ite (s1 < N.len x0)
                    (
                      N.ite (0 ≤ s1)
                        (
                          N.ite (s1 < N.len x1)
                            (
                              N.bind (laws_eqOp (N.rd x0 s1 (0, 0, 0, 0)) (N.rd x1 s1 (0, 0, 0, 0))) fun r1 =>
                                N.cond (N.not r1)
                                  (some (.inr false))
                                  (some (.inl (N.add .i64 s1 1))))
                            none)
                        none)
                    none)
                none)
            (some (.inr true)))
        0)

noncomputable def laws_markOpS (x0 : List Op) (x1 : Int) : Option (Int × (List Op)) :=
  loopF (fun (s1 : Int × Int × List Op) =>
      N.cond (N.lt s1.2.1 (N.len s1.2.2))
        (
          N.ite (0 ≤ s1.2.1)
            (
              N.ite (s1.2.1 < N.len s1.2.2)
                (
                  N.let_ (N.set s1.2.2 s1.2.1 (s1.1, (N.rd s1.2.2 s1.2.1 (0, 0, 0, 0)).2.1, (N.rd s1.2.2 s1.2.1 (0, 0, 0, 0)).2.2.1, (N.rd s1.2.2 s1.2.1 (0, 0, 0, 0)).2.2.2)) fun v1 =>
                    N.ite (0 ≤ s1.2.1)
                      (
                        N.ite (s1.2.1 < N.len v1)
                          (
                            N.let_ (N.set v1 s1.2.1 ((N.rd v1 s1.2.1 (0, 0, 0, 0)).1, N.add .i64 s1.1 1, (N.rd v1 s1.2.1 (0, 0, 0, 0)).2.2.1, (N.rd v1 s1.2.1 (0, 0, 0, 0)).2.2.2)) fun v2 =>
                              N.ite (0 ≤ s1.2.1)
                                (
                                  N.ite (s1.2.1 < N.len v2)
                                    (
                                      N.let_ (N.set v2 s1.2.1 ((N.rd v2 s1.2.1 (0, 0, 0, 0)).1, (N.rd v2 s1.2.1 (0, 0, 0, 0)).2.1, N.add .i64 (N.add .i64 s1.1 1) 1, (N.rd v2 s1.2.1 (0, 0, 0, 0)).2.2.2)) fun v3 =>
                                        N.ite (0 ≤ s1.2.1)
                                          (
                                            N.ite (s1.2.1 < N.len v3)
                                              (
                                                N.let_ (N.set v3 s1.2.1 ((N.rd v3 s1.2.1 (0, 0, 0, 0)).1, (N.rd v3 s1.2.1 (0, 0, 0, 0)).2.1, (N.rd v3 s1.2.1 (0, 0, 0, 0)).2.2.1, N.add .i64 (N.add .i64 (N.add .i64 s1.1 1) 1) 1)) fun v4 =>
                                                  some (.inl (N.add .i64 (N.add .i64 (N.add .i64 (N.add .i64 s1.1 1) 1) 1) 1, N.add .i64 s1.2.1 1, v4)))
                                              none)
                                          none)
                                    none)
                                none)
                          none)
                      none)
                none)
            none)
        (some (.inr (s1.1, s1.2.2))))
    (x1, 0, x0)

noncomputable def laws_markEntryS (x0 : List Entry) (x1 : Int) : Option (Int × (List Entry)) :=
  loopF (fun (s1 : Int × Int × List Entry) =>
      N.cond (N.lt s1.2.1 (N.len s1.2.2))
        (
          N.ite (0 ≤ s1.2.1)
            (
              N.ite (s1.2.1 < N.len s1.2.2)
                (
                  N.let_ (N.set s1.2.2 s1.2.1 (s1.1, (N.rd s1.2.2 s1.2.1 (0, (0, 0, 0), 0)).2.1, (N.rd s1.2.2 s1.2.1 (0, (0, 0, 0), 0)).2.2)) fun v1 =>
                    N.ite (0 ≤ s1.2.1)
                      (
                        N.ite (s1.2.1 < N.len v1)
                          (
                            N.let_ (N.set v1 s1.2.1 ((N.rd v1 s1.2.1 (0, (0, 0, 0), 0)).1, (N.add .i64 s1.1 1, ((N.rd v1 s1.2.1 (0, (0, 0, 0), 0)).2.1).2.1, ((N.rd v1 s1.2.1 (0, (0, 0, 0), 0)).2.1).2.2), (N.rd v1 s1.2.1 (0, (0, 0, 0), 0)).2.2)) fun v2 =>
                              N.ite (0 ≤ s1.2.1)
                                (
                                  N.ite (s1.2.1 < N.len v2)
                                    (
                                      N.let_ (N.set v2 s1.2.1 ((N.rd v2 s1.2.1 (0, (0, 0, 0), 0)).1, (((N.rd v2 s1.2.1 (0, (0, 0, 0), 0)).2.1).1, N.add .i64 (N.add .i64 s1.1 1) 1, ((N.rd v2 s1.2.1 (0, (0, 0, 0), 0)).2.1).2.2), (N.rd v2 s1.2.1 (0, (0, 0, 0), 0)).2.2)) fun v3 =>
                                        N.ite (0 ≤ s1.2.1)
                                          (
                                            N.ite (s1.2.1 < N.len v3)
                                              (
                                                N.let_ (N.set v3 s1.2.1 ((N.rd v3 s1.2.1 (0, (0, 0, 0), 0)).1, (((N.rd v3 s1.2.1 (0, (0, 0, 0), 0)).2.1).1, ((N.rd v3 s1.2.1 (0, (0, 0, 0), 0)).2.1).2.1, N.add .i64 (N.add .i64 (N.add .i64 s1.1 1) 1) 1), (N.rd v3 s1.2.1 (0, (0, 0, 0), 0)).2.2)) fun v4 =>
                                                  N.ite (0 ≤ s1.2.1)
                                                    (
                                                      N.ite (s1.2.1 < N.len v4)
                                                        (
                                                          N.let_ (N.set v4 s1.2.1 ((N.rd v4 s1.2.1 (0, (0, 0, 0), 0)).1, (N.rd v4 s1.2.1 (0, (0, 0, 0), 0)).2.1, N.add .i64 (N.add .i64 (N.add .i64 (N.add .i64 s1.1 1) 1) 1) 1)) fun v5 =>
                                                            some (.inl (N.add .i64 (N.add .i64 (N.add .i64 (N.add .i64 (N.add .i64 s1.1 1) 1) 1) 1) 1, N.add .i64 s1.2.1 1, v5)))
                                                        none)
                                                    none)
                                              none)
                                          none)
                                    none)
                                none)
                          none)
                      none)
                none)
            none)
        (some (.inr (s1.1, s1.2.2))))
    (x1, 0, x0)

noncomputable def laws_szEntryS (x0 : List Entry) (x1 : Int) : Option (Int) :=
  N.cond (N.lt (N.sub .i64 x1 (N.len x0)) 0)
    (some (-1))
    (some (N.sub .i64 x1 (N.len x0)))

noncomputable def laws_toAddress (x0 : Address) : Option (Address) :=
  some x0

noncomputable def laws_toEntry (x0 : Entry) : Option (Entry) :=
  N.bind (laws_toAddress x0.2.1) fun r1 =>
    some (x0.1, r1, x0.2.2)

noncomputable def laws_toEntryS (x0 : List Entry) : Option (List Entry) :=
  N.ite (0 ≤ N.len x0)
    (
      N.ite (N.room (N.len x0) 40)
        (
          loopF (fun (s1 : Int × List Entry) =>
              N.cond (N.lt s1.1 (N.len x0))
                (
                  N.ite (0 ≤ s1.1)
                    (
                      N.ite (s1.1 < N.len x0)
                        (
                          N.bind (laws_toEntry (N.rd x0 s1.1 (0, (0, 0, 0), 0))) fun r1 =>
                            N.ite (0 ≤ s1.1)
                              (
                                N.ite (s1.1 < N.len s1.2)
                                  (some (.inl (N.add .i64 s1.1 1, N.set s1.2 s1.1 r1)))
                                  none)
                              none)
                        none)
                    none)
                (some (.inr s1.2)))
            (0, N.rep (N.len x0) (0, (0, 0, 0), 0)))
        none)
    none

noncomputable def laws_szResource (x0 : Resource) (x1 : Int) : Option (Int) :=
  N.bind (laws_szIntS x0.2.1 x1) fun r1 =>
    N.cond (N.lt r1 0)
      (some (-1))
      (some r1)

noncomputable def laws_szCapture (x0 : Capture) (x1 : Int) : Option (Int) :=
  N.bind (laws_szResource x0.2.2 x1) fun r1 =>
    N.cond (N.lt r1 0)
      (some (-1))
      (some r1)

noncomputable def laws_szCaptureS (x0 : List Capture) (x1 : Int) : Option (Int) :=
  N.cond (N.lt (N.sub .i64 x1 (N.len x0)) 0)
    (some (-1))
    (
      loopF (fun (s1 : Int × Int) =>
          N.cond (N.lt s1.2 (N.len x0))
            (
              N.ite (0 ≤ s1.2)
                (
                  N.ite (s1.2 < N.len x0)
                    (
                      N.bind (laws_szCapture (N.rd x0 s1.2 ((0, 0, 0), 0, (0, [], (0, 0, 0)))) s1.1) fun r1 =>
                        N.cond (N.lt r1 0)
                          (some (.inr (-1)))
                          (some (.inl (r1, N.add .i64 s1.2 1))))
                    none)
                none)
            (some (.inr s1.1)))
        (N.sub .i64 x1 (N.len x0), 0))

noncomputable def laws_toResource (x0 : Resource) : Option (Int × (List Int) × Int × Int × Int) :=
  N.bind (laws_toIntS x0.2.1) fun r1 =>
    N.bind (laws_toAddress x0.2.2) fun r2 =>
      some (x0.1, r1, r2.1, r2.2.1, r2.2.2)

noncomputable def laws_toCapture (x0 : Capture) : Option (Int × Int × Int × Int × Int × (List Int) × Int × Int × Int) :=
  N.bind (laws_toAddress x0.1) fun r1 =>
    N.bind (laws_toResource x0.2.2) fun r2 =>
      some (r1.1, r1.2.1, r1.2.2, x0.2.1, r2.1, r2.2.1, r2.2.2.1, r2.2.2.2.1, r2.2.2.2.2)

noncomputable def laws_toCaptureS (x0 : List Capture) : Option (List Capture) :=
  N.ite (0 ≤ N.len x0)
    (
      N.ite (N.room (N.len x0) 88)
        (
          loopF (fun (s1 : Int × List Capture) =>
              N.cond (N.lt s1.1 (N.len x0))
                (
                  N.ite (0 ≤ s1.1)
                    (
                      N.ite (s1.1 < N.len x0)
                        (
                          N.bind (laws_toCapture (N.rd x0 s1.1 ((0, 0, 0), 0, (0, [], (0, 0, 0))))) fun r1 =>
                            N.ite (0 ≤ s1.1)
                              (
                                N.ite (s1.1 < N.len s1.2)
                                  (some (.inl (N.add .i64 s1.1 1, N.set s1.2 s1.1 ((r1.1, r1.2.1, r1.2.2.1), r1.2.2.2.1, (r1.2.2.2.2.1, r1.2.2.2.2.2.1, (r1.2.2.2.2.2.2.1, r1.2.2.2.2.2.2.2.1, r1.2.2.2.2.2.2.2.2))))))
                                  none)
                              none)
                        none)
                    none)
                (some (.inr s1.2)))
            (0, N.rep (N.len x0) ((0, 0, 0), 0, (0, [], (0, 0, 0)))))
        none)
    none

noncomputable def laws_eqResource (x0 : Resource) (x1 : Resource) : Option (Bool) :=
  N.cond (N.ne x0.1 x1.1)
    (some false)
    (
      N.bind (laws_eqIntS x0.2.1 x1.2.1) fun r1 =>
        N.cond (N.not r1)
          (some false)
          (
            N.bind (laws_eqAddress x0.2.2 x1.2.2) fun r2 =>
              N.cond (N.not r2)
                (some false)
                (some true)))

noncomputable def laws_eqCapture (x0 : Capture) (x1 : Capture) : Option (Bool) :=
  N.bind (laws_eqAddress x0.1 x1.1) fun r1 =>
    N.cond (N.not r1)
      (some false)
      (
        N.cond (N.ne x0.2.1 x1.2.1)
          (some false)
          (
            N.bind (laws_eqResource x0.2.2 x1.2.2) fun r2 =>
              N.cond (N.not r2)
                (some false)
                (some true)))

noncomputable def laws_eqCaptureS (x0 : List Capture) (x1 : List Capture) : Option (Bool) :=
  N.cond (N.ne (N.len x0) (N.len x1))
    (some false)
    (
      loopF (fun (s1 : Int) =>
          N.cond (N.lt s1 (N.len x0))
            (
              N.ite (0 ≤ s1)
                (
                  N.ite (s1 < N.len x0)
                    (
                      N.ite (0 ≤ s1)
                        (
                          N.ite (s1 < N.len x1)
                            (
                              N.bind (laws_eqCapture (N.rd x0 s1 ((0, 0, 0), 0, (0, [], (0, 0, 0)))) (N.rd x1 s1 ((0, 0, 0), 0, (0, [], (0, 0, 0))))) fun r1 =>
                                N.cond (N.not r1)
                                  (some (.inr false))
                                  (some (.inl (N.add .i64 s1 1))))
                            none)
                        none)
                    none)
                none)
            (some (.inr true)))
        0)

noncomputable def laws_markCaptureS (x0 : List Capture) (x1 : Int) : Option (Int × (List Capture)) :=
  loopF (fun (s1 : Int × Int × List Capture) =>
      N.cond (N.lt s1.2.1 (N.len s1.2.2))
        (
          N.ite (0 ≤ s1.2.1)
            (
              N.ite (s1.2.1 < N.len s1.2.2)
                (
                  N.let_ (N.set s1.2.2 s1.2.1 ((s1.1, ((N.rd s1.2.2 s1.2.1 ((0, 0, 0), 0, (0, [], (0, 0, 0)))).1).2.1, ((N.rd s1.2.2 s1.2.1 ((0, 0, 0), 0, (0, [], (0, 0, 0)))).1).2.2), (N.rd s1.2.2 s1.2.1 ((0, 0, 0), 0, (0, [], (0, 0, 0)))).2.1, (N.rd s1.2.2 s1.2.1 ((0, 0, 0), 0, (0, [], (0, 0, 0)))).2.2)) fun v1 =>
                    N.ite (0 ≤ s1.2.1)
                      (
                        N.ite (s1.2.1 < N.len v1)
                          (
                            N.let_ (N.set v1 s1.2.1 ((((N.rd v1 s1.2.1 ((0, 0, 0), 0, (0, [], (0, 0, 0)))).1).1, N.add .i64 s1.1 1, ((N.rd v1 s1.2.1 ((0, 0, 0), 0, (0, [], (0, 0, 0)))).1).2.2), (N.rd v1 s1.2.1 ((0, 0, 0), 0, (0, [], (0, 0, 0)))).2.1, (N.rd v1 s1.2.1 ((0, 0, 0), 0, (0, [], (0, 0, 0)))).2.2)) fun v2 =>
                              N.ite (0 ≤ s1.2.1)
                                (
                                  N.ite (s1.2.1 < N.len v2)
                                    (
                                      N.let_ (N.set v2 s1.2.1 ((((N.rd v2 s1.2.1 ((0, 0, 0), 0, (0, [], (0, 0, 0)))).1).1, ((N.rd v2 s1.2.1 ((0, 0, 0), 0, (0, [], (0, 0, 0)))).1).2.1, N.add .i64 (N.add .i64 s1.1 1) 1), (N.rd v2 s1.2.1 ((0, 0, 0), 0, (0, [], (0, 0, 0)))).2.1, (N.rd v2 s1.2.1 ((0, 0, 0), 0, (0, [], (0, 0, 0)))).2.2)) fun v3 =>
                                        N.ite (0 ≤ s1.2.1)
                                          (
                                            N.ite (s1.2.1 < N.len v3)
                                              (
                                                N.let_ (N.set v3 s1.2.1 ((N.rd v3 s1.2.1 ((0, 0, 0), 0, (0, [], (0, 0, 0)))).1, N.add .i64 (N.add .i64 (N.add .i64 s1.1 1) 1) 1, (N.rd v3 s1.2.1 ((0, 0, 0), 0, (0, [], (0, 0, 0)))).2.2)) fun v4 =>
                                                  N.ite (0 ≤ s1.2.1)
                                                    (
                                                      N.ite (s1.2.1 < N.len v4)
                                                        (
                                                          N.let_ (N.set v4 s1.2.1 ((N.rd v4 s1.2.1 ((0, 0, 0), 0, (0, [], (0, 0, 0)))).1, (N.rd v4 s1.2.1 ((0, 0, 0), 0, (0, [], (0, 0, 0)))).2.1, (N.add .i64 (N.add .i64 (N.add .i64 (N.add .i64 s1.1 1) 1) 1) 1, ((N.rd v4 s1.2.1 ((0, 0, 0), 0, (0, [], (0, 0, 0)))).2.2).2.1, ((N.rd v4 s1.2.1 ((0, 0, 0), 0, (0, [], (0, 0, 0)))).2.2).2.2))) fun v5 =>
                                                            N.ite (0 ≤ s1.2.1)
                                                              (
                                                                N.ite (s1.2.1 < N.len v5)
                                                                  (
                                                                    N.bind (laws_markIntS (((N.rd v5 s1.2.1 ((0, 0, 0), 0, (0, [], (0, 0, 0)))).2.2).2.1) (N.add .i64 (N.add .i64 (N.add .i64 (N.add .i64 (N.add .i64 s1.1 1) 1) 1) 1) 1)) fun r1 =>
                                                                      N.let_ (N.set v5 s1.2.1 ((N.rd v5 s1.2.1 ((0, 0, 0), 0, (0, [], (0, 0, 0)))).1, (N.rd v5 s1.2.1 ((0, 0, 0), 0, (0, [], (0, 0, 0)))).2.1, (((N.rd v5 s1.2.1 ((0, 0, 0), 0, (0, [], (0, 0, 0)))).2.2).1, r1.2, ((N.rd v5 s1.2.1 ((0, 0, 0), 0, (0, [], (0, 0, 0)))).2.2).2.2))) fun v6 =>
                                                                        N.ite (0 ≤ s1.2.1)
                                                                          (
                                                                            N.ite (s1.2.1 < N.len v6)
                                                                              (
                                                                                N.let_ (N.set v6 s1.2.1 ((N.rd v6 s1.2.1 ((0, 0, 0), 0, (0, [], (0, 0, 0)))).1, (N.rd v6 s1.2.1 ((0, 0, 0), 0, (0, [], (0, 0, 0)))).2.1, (((N.rd v6 s1.2.1 ((0, 0, 0), 0, (0, [], (0, 0, 0)))).2.2).1, ((N.rd v6 s1.2.1 ((0, 0, 0), 0, (0, [], (0, 0, 0)))).2.2).2.1, (r1.1, (((N.rd v6 s1.2.1 ((0, 0, 0), 0, (0, [], (0, 0, 0)))).2.2).2.2).2.1, (((N.rd v6 s1.2.1 ((0, 0, 0), 0, (0, [], (0, 0, 0)))).2.2).2.2).2.2)))) fun v7 =>
                                                                                  N.ite (0 ≤ s1.2.1)
                                                                                    (
                                                                                      N.ite (s1.2.1 < N.len v7)
                                                                                        (
                                                                                          N.let_ (N.set v7 s1.2.1 ((N.rd v7 s1.2.1 ((0, 0, 0), 0, (0, [], (0, 0, 0)))).1, (N.rd v7 s1.2.1 ((0, 0, 0), 0, (0, [], (0, 0, 0)))).2.1, (((N.rd v7 s1.2.1 ((0, 0, 0), 0, (0, [], (0, 0, 0)))).2.2).1, ((N.rd v7 s1.2.1 ((0, 0, 0), 0, (0, [], (0, 0, 0)))).2.2).2.1, ((((N.rd v7 s1.2.1 ((0, 0, 0), 0, (0, [], (0, 0, 0)))).2.2).2.2).1, N.add .i64 r1.1 1, (((N.rd v7 s1.2.1 ((0, 0, 0), 0, (0, [], (0, 0, 0)))).2.2).2.2).2.2)))) fun v8 =>
                                                                                            N.ite (0 ≤ s1.2.1)
                                                                                              (
                                                                                                N.ite (s1.2.1 < N.len v8)
                                                                                                  (
                                                                                                    N.let_ (N.set v8 s1.2.1 ((N.rd v8 s1.2.1 ((0, 0, 0), 0, (0, [], (0, 0, 0)))).1, (N.rd v8 s1.2.1 ((0, 0, 0), 0, (0, [], (0, 0, 0)))).2.1, (((N.rd v8 s1.2.1 ((0, 0, 0), 0, (0, [], (0, 0, 0)))).2.2).1, ((N.rd v8 s1.2.1 ((0, 0, 0), 0, (0, [], (0, 0, 0)))).2.2).2.1, ((((N.rd v8 s1.2.1 ((0, 0, 0), 0, (0, [], (0, 0, 0)))).2.2).2.2).1, (((N.rd v8 s1.2.1 ((0, 0, 0), 0, (0, [], (0, 0, 0)))).2.2).2.2).2.1, N.add .i64 (N.add .i64 r1.1 1) 1)))) fun v9 =>
                                                                                                      some (.inl (N.add .i64 (N.add .i64 (N.add .i64 r1.1 1) 1) 1, N.add .i64 s1.2.1 1, v9)))
                                                                                                  none)
                                                                                              none)
                                                                                        none)
                                                                                    none)
                                                                              none)
                                                                          none)
                                                                  none)
                                                              none)
                                                        none)
                                                    none)
                                              none)
                                          none)
                                    none)
                                none)
                          none)
                      none)
                none)
            none)
        (some (.inr (s1.1, s1.2.2))))
    (x1, 0, x0)

noncomputable def laws_szContainer (x0 : Container) (x1 : Int) : Option (Int) :=
  N.bind (laws_szOpS x0.1 x1) fun r1 =>
    N.cond (N.lt r1 0)
      (some (-1))
      (
        N.bind (laws_szEntryS x0.2.1 r1) fun r2 =>
          N.cond (N.lt r2 0)
            (some (-1))
            (
              N.bind (laws_szCaptureS x0.2.2.1 r2) fun r3 =>
                N.cond (N.lt r3 0)
                  (some (-1))
                  (some r3)))

noncomputable def laws_toContainer (x0 : Container) : Option ((List Op) × (List Entry) × (List Capture) × Int) :=
  N.bind (laws_toOpS x0.1) fun r1 =>
    N.bind (laws_toEntryS x0.2.1) fun r2 =>
      N.bind (laws_toCaptureS x0.2.2.1) fun r3 =>
        some (r1, r2, r3, x0.2.2.2)

noncomputable def laws_eqContainer (x0 : Container) (x1 : Container) : Option (Bool) :=
  N.bind (laws_eqOpS x0.1 x1.1) fun r1 =>
    N.cond (N.not r1)
      (some false)
      (
        N.bind (laws_eqEntryS x0.2.1 x1.2.1) fun r2 =>
          N.cond (N.not r2)
            (some false)
            (
              N.bind (laws_eqCaptureS x0.2.2.1 x1.2.2.1) fun r3 =>
                N.cond (N.not r3)
                  (some false)
                  (
                    N.cond (N.ne x0.2.2.2 x1.2.2.2)
                      (some false)
                      (some true))))

noncomputable def laws_markContainer (x0 : List Op) (x1 : List Entry) (x2 : List Capture) (x3 : Int) (x4 : Int) : Option (Int × (List Op) × (List Entry) × (List Capture)) :=
  N.bind (laws_markOpS x0 x4) fun r1 =>
    N.bind (laws_markEntryS x1 r1.1) fun r2 =>
      N.bind (laws_markCaptureS x2 r2.1) fun r3 =>
        some (r3.1, r1.2, r2.2, r3.2)

noncomputable def spec_l14Run (x0 : List Op) (x1 : List Entry) : Option (Played × (List State)) :=
  N.bind (spec_StartState) fun r1 =>
    N.bind (spec_IsScript x0) fun r2 =>
      N.cond (N.not r2)
        (some ((2, 0, r1), [r1]))
        (
          N.bind (spec_AreEntries x1) fun r3 =>
            N.cond (N.not r3)
              (some ((2, 0, r1), [r1]))
              (
                loopF (fun (s1 : List State × Int × (Int × Int × Int × List Int × List Int × List Int) × (Int × List Int × List Int × List Int)) =>
                    N.bind (spec_IsDone x0 s1.2.2.2) fun r4 =>
                      N.cond (N.not r4)
                        (
                          N.bind (spec_WantOf x0 s1.2.2.2) fun r5 =>
                            N.cond (N.gt r5.1 0)
                              (
                                N.cond (N.ge s1.2.1 (N.len x1))
                                  (some (.inr ((2, s1.2.1, s1.2.2.2), s1.1)))
                                  (
                                    N.ite (0 ≤ s1.2.1)
                                      (
                                        N.ite (s1.2.1 < N.len x1)
                                          (
                                            N.cond (N.ne ((N.rd x1 s1.2.1 (0, (0, 0, 0), 0)).1) r5.1)
                                              (some (.inr ((1, s1.2.1, s1.2.2.2), s1.1)))
                                              (
                                                N.ite (0 ≤ s1.2.1)
                                                  (
                                                    N.ite (s1.2.1 < N.len x1)
                                                      (
                                                        N.cond (N.not (N.both (N.eq (((N.rd x1 s1.2.1 (0, (0, 0, 0), 0)).2.1).1) r5.2.1) (N.both (N.eq (((N.rd x1 s1.2.1 (0, (0, 0, 0), 0)).2.1).2.1) r5.2.2.1) (N.eq (((N.rd x1 s1.2.1 (0, (0, 0, 0), 0)).2.1).2.2) r5.2.2.2))))
                                                          (some (.inr ((1, s1.2.1, s1.2.2.2), s1.1)))
                                                          (
                                                            N.ite (0 ≤ s1.2.1)
                                                              (
                                                                N.ite (s1.2.1 < N.len x1)
                                                                  (
                                                                    N.bind (spec_StepState x0 s1.2.2.2 ((N.rd x1 s1.2.1 (0, (0, 0, 0), 0)).2.2)) fun r6 =>
                                                                      N.ite (N.fits s1.1 [r6] 80)
                                                                        (some (.inl (N.app s1.1 [r6], N.add .i64 s1.2.1 1, s1.2.2.1, r6)))
                                                                        none)
                                                                  none)
                                                              none))
                                                      none)
                                                  none))
                                          none)
                                      none))
                              (
                                N.bind (spec_StepState x0 s1.2.2.2 0) fun r7 =>
                                  N.ite (N.fits s1.1 [r7] 80)
                                    (some (.inl (N.app s1.1 [r7], s1.2.1, s1.2.2.1, r7)))
                                    none))
                        (
                          Option.map Sum.inr
                            (
                              N.cond (N.lt s1.2.1 (N.len x1))
                                (some ((1, s1.2.1, s1.2.2.2), s1.1))
                                (some ((0, 0, s1.2.2.2), s1.1)))))
                  ([r1], 0, (0, 0, 0, [], [], []), r1)))

noncomputable def spec_Replay (x0 : List Op) (x1 : List Entry) : Option (Int × Int × Int × (List Int) × (List Int) × (List Int)) :=
  N.bind (spec_l14Run x0 x1) fun r1 =>
    N.bind (spec_l11Copy r1.1.2.2) fun r2 =>
      some (r1.1.1, r1.1.2.1, r2.1, r2.2.1, r2.2.2.1, r2.2.2.2)

noncomputable def spec_PlayContainer (x0 : Container) : Option (Int × Int × Int × (List Int) × (List Int) × (List Int)) :=
  N.bind (spec_Replay x0.1 x0.2.1) fun r1 =>
    some r1

noncomputable def impl_played (x0 : List Op) (x1 : List Entry) : Option (Played × (List State)) :=
  N.bind (impl_StartState) fun r1 =>
    N.bind (impl_IsScript x0) fun r2 =>
      N.cond (N.not r2)
        (some ((2, 0, r1), [r1]))
        (
          N.bind (impl_AreEntries x1) fun r3 =>
            N.cond (N.not r3)
              (some ((2, 0, r1), [r1]))
              (
                loopF (fun (s1 : List State × Int × (Int × Int × Int × List Int × List Int × List Int) × (Int × List Int × List Int × List Int)) =>
                    N.bind (impl_IsDone x0 s1.2.2.2) fun r4 =>
                      N.cond (N.not r4)
                        (
                          N.bind (impl_WantOf x0 s1.2.2.2) fun r5 =>
                            N.cond (N.ne r5.1 0)
                              (
                                N.cond (N.eq s1.2.1 (N.len x1))
                                  (some (.inr ((2, s1.2.1, s1.2.2.2), s1.1)))
                                  (
                                    N.ite (0 ≤ s1.2.1)
                                      (
                                        N.ite (s1.2.1 < N.len x1)
                                          (
                                            N.cond (N.ne ((N.rd x1 s1.2.1 (0, (0, 0, 0), 0)).1) r5.1)
                                              (some (.inr ((1, s1.2.1, s1.2.2.2), s1.1)))
                                              (
                                                N.ite (0 ≤ s1.2.1)
                                                  (
                                                    N.ite (s1.2.1 < N.len x1)
                                                      (
                                                        N.cond (N.not (N.both (N.eq (((N.rd x1 s1.2.1 (0, (0, 0, 0), 0)).2.1).1) r5.2.1) (N.both (N.eq (((N.rd x1 s1.2.1 (0, (0, 0, 0), 0)).2.1).2.1) r5.2.2.1) (N.eq (((N.rd x1 s1.2.1 (0, (0, 0, 0), 0)).2.1).2.2) r5.2.2.2))))
                                                          (some (.inr ((1, s1.2.1, s1.2.2.2), s1.1)))
                                                          (
                                                            N.ite (0 ≤ s1.2.1)
                                                              (
                                                                N.ite (s1.2.1 < N.len x1)
                                                                  (
                                                                    N.bind (impl_StepState x0 s1.2.2.2 ((N.rd x1 s1.2.1 (0, (0, 0, 0), 0)).2.2)) fun r6 =>
                                                                      N.ite (N.fits s1.1 [r6] 80)
                                                                        (some (.inl (N.app s1.1 [r6], N.add .i64 s1.2.1 1, s1.2.2.1, r6)))
                                                                        none)
                                                                  none)
                                                              none))
                                                      none)
                                                  none))
                                          none)
                                      none))
                              (
                                N.bind (impl_StepState x0 s1.2.2.2 0) fun r7 =>
                                  N.ite (N.fits s1.1 [r7] 80)
                                    (some (.inl (N.app s1.1 [r7], s1.2.1, s1.2.2.1, r7)))
                                    none))
                        (
                          Option.map Sum.inr
                            (
                              N.cond (N.lt s1.2.1 (N.len x1))
                                (some ((1, s1.2.1, s1.2.2.2), s1.1))
                                (some ((0, 0, s1.2.2.2), s1.1)))))
                  ([r1], 0, (0, 0, 0, [], [], []), r1)))

noncomputable def impl_Replay (x0 : List Op) (x1 : List Entry) : Option (Int × Int × Int × (List Int) × (List Int) × (List Int)) :=
  N.bind (impl_played x0 x1) fun r1 =>
    N.bind (impl_copyState r1.1.2.2) fun r2 =>
      some (r1.1.1, r1.1.2.1, r2.1, r2.2.1, r2.2.2.1, r2.2.2.2)

noncomputable def impl_PlayContainer (x0 : Container) : Option (Int × Int × Int × (List Int) × (List Int) × (List Int)) :=
  N.bind (impl_Replay x0.1 x0.2.1) fun r1 =>
    some r1

noncomputable def laws_eqState (x0 : State) (x1 : State) : Option (Bool) :=
  N.cond (N.ne x0.1 x1.1)
    (some false)
    (
      N.bind (laws_eqIntS x0.2.1 x1.2.1) fun r1 =>
        N.cond (N.not r1)
          (some false)
          (
            N.bind (laws_eqIntS x0.2.2.1 x1.2.2.1) fun r2 =>
              N.cond (N.not r2)
                (some false)
                (
                  N.bind (laws_eqIntS x0.2.2.2 x1.2.2.2) fun r3 =>
                    N.cond (N.not r3)
                      (some false)
                      (some true))))

noncomputable def laws_eqPlayed (x0 : Played) (x1 : Played) : Option (Bool) :=
  N.cond (N.ne x0.1 x1.1)
    (some false)
    (
      N.cond (N.ne x0.2.1 x1.2.1)
        (some false)
        (
          N.bind (laws_eqState x0.2.2 x1.2.2) fun r1 =>
            N.cond (N.not r1)
              (some false)
              (some true)))

noncomputable def laws_markState (x0 : Int) (x1 : List Int) (x2 : List Int) (x3 : List Int) (x4 : Int) : Option (Int × (List Int) × (List Int) × (List Int)) :=
  N.bind (laws_markIntS x1 x4) fun r1 =>
    N.bind (laws_markIntS x2 r1.1) fun r2 =>
      N.bind (laws_markIntS x3 r2.1) fun r3 =>
        some (r3.1, r1.2, r2.2, r3.2)

noncomputable def laws_markPlayed (x0 : Int) (x1 : Int) (x2 : Int) (x3 : List Int) (x4 : List Int) (x5 : List Int) (x6 : Int) : Option (Int × (List Int) × (List Int) × (List Int)) :=
  N.bind (laws_markState x2 x3 x4 x5 x6) fun r1 =>
    some r1

noncomputable def laws_heldState (x0 : State) (x1 : Int) : Option (Int) :=
  N.bind (laws_heldIntS x0.2.1 x1) fun r1 =>
    N.cond (N.lt r1 0)
      (some (-1))
      (
        N.bind (laws_heldIntS x0.2.2.1 r1) fun r2 =>
          N.cond (N.lt r2 0)
            (some (-1))
            (
              N.bind (laws_heldIntS x0.2.2.2 r2) fun r3 =>
                N.cond (N.lt r3 0)
                  (some (-1))
                  (some r3)))

noncomputable def laws_heldPlayed (x0 : Played) (x1 : Int) : Option (Int) :=
  N.bind (laws_heldState x0.2.2 x1) fun r1 =>
    N.cond (N.lt r1 0)
      (some (-1))
      (some r1)

noncomputable def laws_FnExactPlayContainer (x0 : Container) : Option (Bool) :=
  N.bind (laws_szContainer x0 1048576) fun r1 =>
    N.cond (N.lt r1 0)
      (some true)
      (
        N.bind (laws_toContainer x0) fun r2 =>
          N.bind (spec_PlayContainer r2) fun r3 =>
            N.bind (laws_toContainer x0) fun r4 =>
              N.bind (impl_PlayContainer r4) fun r5 =>
                N.bind (laws_eqPlayed (r5.1, r5.2.1, (r5.2.2.1, r5.2.2.2.1, r5.2.2.2.2.1, r5.2.2.2.2.2)) (r3.1, r3.2.1, (r3.2.2.1, r3.2.2.2.1, r3.2.2.2.2.1, r3.2.2.2.2.2))) fun r6 =>
                  N.cond (N.not r6)
                    (some false)
                    (
                      N.bind (laws_toContainer x0) fun r7 =>
                        N.bind (laws_eqContainer r4 r7) fun r8 =>
                          N.cond (N.not r8)
                            (some false)
                            (
                              N.bind (laws_markContainer r4.1 r4.2.1 r4.2.2.1 r4.2.2.2 1) fun r9 =>
                                N.cond (N.lt r9.1 0)
                                  (some false)
                                  (
                                    N.bind (laws_eqPlayed (r5.1, r5.2.1, (r5.2.2.1, r5.2.2.2.1, r5.2.2.2.2.1, r5.2.2.2.2.2)) (r3.1, r3.2.1, (r3.2.2.1, r3.2.2.2.1, r3.2.2.2.2.1, r3.2.2.2.2.2))) fun r10 =>
                                      N.cond (N.not r10)
                                        (some false)
                                        (
                                          N.bind (laws_markPlayed r5.1 r5.2.1 r5.2.2.1 r5.2.2.2.1 r5.2.2.2.2.1 r5.2.2.2.2.2 1) fun r11 =>
                                            N.bind (laws_heldPlayed (r5.1, r5.2.1, (r5.2.2.1, r11.2.1, r11.2.2.1, r11.2.2.2)) 1) fun r12 =>
                                              N.cond (N.lt r12 0)
                                                (some false)
                                                (
                                                  N.cond (N.ne r12 r11.1)
                                                    (some false)
                                                    (
                                                      N.bind (laws_toContainer x0) fun r13 =>
                                                        N.bind (impl_PlayContainer r13) fun r14 =>
                                                          N.bind (laws_eqPlayed (r14.1, r14.2.1, (r14.2.2.1, r14.2.2.2.1, r14.2.2.2.2.1, r14.2.2.2.2.2)) (r3.1, r3.2.1, (r3.2.2.1, r3.2.2.2.1, r3.2.2.2.2.1, r3.2.2.2.2.2))) fun r15 =>
                                                            N.cond (N.not r15)
                                                              (some false)
                                                              (
                                                                N.bind (laws_heldPlayed (r5.1, r5.2.1, (r5.2.2.1, r11.2.1, r11.2.2.1, r11.2.2.2)) 1) fun r16 =>
                                                                  N.cond (N.lt r16 0)
                                                                    (some false)
                                                                    (
                                                                      N.cond (N.ne r16 r11.1)
                                                                        (some false)
                                                                        (some true))))))))))

end D
end Go.Sh
set_option linter.unusedVariables false
set_option linter.unusedSimpArgs false
namespace Go.Sh
open Go
/-! ## Loops -/
theorem loopN_det {S R : Type} {step : S → Option (S ⊕ R)} : ∀ {n m : Nat} {s : S} {a b : R}, loopN step n s = some a → loopN step m s = some b → a = b
  | 0, _, _, _, _, h, _ => by simp [loopN] at h
  | _ + 1, 0, _, _, _, _, h => by simp [loopN] at h
  | n + 1, m + 1, s, a, b, h1, h2 => by
    simp only [loopN] at h1 h2
    split at h1
    · cases h1
    · rename_i s' hs; rw [hs] at h2; exact loopN_det h1 h2
    · rename_i r hr; rw [hr] at h2; simp at h1 h2; rw [← h1, ← h2]

theorem loopF_of {S R : Type} {step : S → Option (S ⊕ R)} {s : S} {n : Nat} {r : R} (h : loopN step n s = some r) : loopF step s = some r := by
  have hx : ∃ n r, loopN step n s = some r := ⟨n, r, h⟩
  unfold loopF
  rw [dif_pos hx]
  obtain ⟨m, hm⟩ := Classical.choose_spec hx |> fun h => (⟨_, Classical.choose_spec h⟩ : ∃ v, loopN step (Classical.choose hx) s = some v)
  have := Classical.choose_spec (Classical.choose_spec hx)
  rw [loopN_det this h]

theorem loopF_inr {S R : Type} {step : S → Option (S ⊕ R)} {s : S} {r : R} (h : step s = some (.inr r)) : loopF step s = some r :=
  loopF_of (n := 1) (by simp [loopN, h])

theorem loopF_inl {S R : Type} {step : S → Option (S ⊕ R)} {s s' : S} (h : step s = some (.inl s')) : loopF step s = loopF step s' := by
  by_cases hx : ∃ n r, loopN step n s' = some r
  · obtain ⟨n, r, hn⟩ := hx
    rw [loopF_of hn, loopF_of (n := n + 1) (r := r) (by simp [loopN, h, hn])]
  · have hy : ¬ ∃ n r, loopN step n s = some r := by
      rintro ⟨n, r, hn⟩
      cases n with
      | zero => simp [loopN] at hn
      | succ n => simp only [loopN, h] at hn; exact hx ⟨n, r, hn⟩
    unfold loopF
    rw [dif_neg hx, dif_neg hy]

/-- counting up to n -/
theorem loop_upto {σ S R : Type} {step : S → Option (S ⊕ R)} (n : Nat) (emb : Nat → σ → S) (st : Nat → σ) (r : R)
    (hstep : ∀ k < n, step (emb k (st k)) = some (.inl (emb (k + 1) (st (k + 1))))) (hend : step (emb n (st n)) = some (.inr r)) : loopF step (emb 0 (st 0)) = some r := by
  have key : ∀ (m k : Nat), k + m = n → loopF step (emb k (st k)) = some r := by
    intro m
    induction m with
    | zero => intro k hk; have : k = n := by omega
              subst this; exact loopF_inr hend
    | succ m ih => intro k hk; rw [loopF_inl (hstep k (by omega))]; exact ih (k + 1) (by omega)
  exact key n 0 (by omega)

/-! ## Words -/

section
variable {R α β : Type}
@[simp] theorem bind_some' (x : β) (f : β → Option R) : N.bind (some x) f = f x := rfl

@[simp] theorem cond_true (x y : Option R) : N.cond true x y = x := rfl

@[simp] theorem cond_false (x y : Option R) : N.cond false x y = y := rfl

theorem cond_if (b : Bool) (x y : Option R) : N.cond b x y = if b = true then x else y := rfl

theorem cond_dec (p : Prop) [Decidable p] (x y : Option R) : N.cond (decide p) x y = if p then x else y := by unfold N.cond; by_cases h : p <;> simp [h]

theorem ite_if (c : Prop) [Decidable c] (x y : Option R) : N.ite c x y = if c then x else y := rfl

theorem nite_pos {c : Prop} [Decidable c] (h : c) (x y : Option R) : N.ite c x y = x := if_pos h

theorem lt_d (a b : Int) : N.lt a b = decide (a < b) := rfl

theorem le_d (a b : Int) : N.le a b = decide (a ≤ b) := rfl

theorem gt_d (a b : Int) : N.gt a b = decide (b < a) := rfl

theorem ge_d (a b : Int) : N.ge a b = decide (b ≤ a) := rfl

theorem eq_d (a b : Int) : N.eq a b = decide (a = b) := rfl

theorem ne_d (a b : Int) : N.ne a b = decide (¬ a = b) := by
  unfold N.ne; by_cases h : a = b <;> simp [h]

theorem len_d (xs : List α) : N.len xs = (xs.length : Int) := by simp [N.len]

theorem rd_at (xs : List α) (k : Nat) (hk : k < xs.length) (d : α) : N.rd xs (k : Int) d = xs[k] := by
  simp [N.rd, List.getD, hk]

theorem wrap_id {n : Int} (h1 : -9223372036854775808 ≤ n) (h2 : n < 9223372036854775808) : IntKind.i64.wrap n = n := by
  have e1 : ((2 : Int) ^ IntKind.i64.bits) = 18446744073709551616 := by decide
  have e2 : ((2 : Int) ^ (IntKind.i64.bits - 1)) = 9223372036854775808 := by decide
  have e3 : IntKind.i64.signed = true := rfl
  unfold IntKind.wrap
  rw [e1, e2, e3]
  simp only [Bool.true_and, decide_eq_true_eq]
  split <;> omega

theorem add_id {a b : Int} (h1 : -9223372036854775808 ≤ a + b) (h2 : a + b < 9223372036854775808) : N.add .i64 a b = a + b := wrap_id h1 h2

theorem sub_id {a b : Int} (h1 : -9223372036854775808 ≤ a - b) (h2 : a - b < 9223372036854775808) : N.sub .i64 a b = a - b := wrap_id h1 h2

theorem next_id {k n : Nat} (hk : k < n) (hn : (n : Int) < 9223372036854775808) : N.add .i64 (k : Int) 1 = ((k + 1 : Nat) : Int) := by
  rw [add_id (by omega) (by omega)]; omega

end
end Go.Sh
set_option linter.unusedVariables false
set_option linter.unusedSimpArgs false
namespace Go.Sh
open Go
/-! ## Bounds of data -/
class Data (α : Type) where
  bd : α → Prop
  ok : α → Prop
  le : ∀ x, ok x → bd x

class Flat (α : Type) [Data α] where
  fl : ∀ x : α, Data.bd x → Data.ok x

open Data
instance : Data Int := ⟨fun x => -9223372036854775808 ≤ x ∧ x < 9223372036854775808, fun x => -9223372036854775808 ≤ x ∧ x < 9223372036854775808, fun _ h => h⟩

instance : Data Bool := ⟨fun _ => True, fun _ => True, fun _ h => h⟩

instance : Data ByteArray := ⟨fun s => s.size ≤ 4611686018427387904, fun s => s.size ≤ 4611686018427387904, fun _ h => h⟩

instance {α β : Type} [Data α] [Data β] : Data (α × β) := ⟨fun x => bd x.1 ∧ bd x.2, fun x => ok x.1 ∧ ok x.2, fun x h => ⟨le _ h.1, le _ h.2⟩⟩

instance {α : Type} [Data α] : Data (List α) := ⟨fun xs => xs.length ≤ 4611686018427387904 ∧ ∀ x ∈ xs, bd x, fun xs => xs.length ≤ 1048576 ∧ ∀ x ∈ xs, ok x, fun xs h => ⟨by omega, fun x hx => le x (h.2 x hx)⟩⟩

instance : Flat Int := ⟨fun _ h => h⟩

instance : Flat Bool := ⟨fun _ h => h⟩

instance : Flat ByteArray := ⟨fun _ h => h⟩

instance {α β : Type} [Data α] [Data β] [Flat α] [Flat β] : Flat (α × β) := ⟨fun x h => ⟨Flat.fl _ h.1, Flat.fl _ h.2⟩⟩

section
variable {α : Type} [Data α]
theorem Data.ok.at {xs : List α} (h : ok xs) {k : Nat} (hk : k < xs.length) : ok xs[k] := h.2 _ (List.getElem_mem hk)

theorem Data.bd.at {xs : List α} (h : bd xs) {k : Nat} (hk : k < xs.length) : bd xs[k] := h.2 _ (List.getElem_mem hk)

theorem Data.ok.sub {xs ys : List α} (h : ok xs) (hs : ys.Sublist xs) : ok ys := ⟨Nat.le_trans hs.length_le h.1, fun x hx => h.2 x (hs.subset hx)⟩

end
/-! ## Words, once more -/

section
variable {R α β : Type}
theorem neB_d (a b : Bool) : N.neB a b = decide (¬ a = b) := by cases a <;> cases b <;> rfl

theorem not_d (p : Prop) [Decidable p] : N.not (decide p) = decide (¬ p) := by unfold N.not; by_cases h : p <;> simp [h]

theorem both_d (p q : Prop) [Decidable p] [Decidable q] : N.both (decide p) (decide q) = decide (p ∧ q) := by unfold N.both; by_cases h : p <;> by_cases h' : q <;> simp [h, h']

theorem not_b (b : Bool) : N.not b = !b := rfl

/-! ## Copies -/
theorem set_grow {xs ys : List α} {k : Nat} (hk : k < xs.length) (hl : ys.length = xs.length) (h : ys.take k = xs.take k) : (ys.set k xs[k]).take (k + 1) = xs.take (k + 1) := by
  apply List.ext_getElem
  · simp [hl]
  · intro i h1 h2
    simp only [List.length_take, List.length_set] at h1 h2
    simp only [List.getElem_take, List.getElem_set]
    split
    · rename_i e; subst e; rfl
    · have hi : i < k := by omega
      have := congrArg (fun l => l[i]?) h
      simp [List.getElem?_take, hi] at this
      rw [List.getElem?_eq_getElem (by omega), List.getElem?_eq_getElem (by omega)] at this
      simpa using this

/-- an element of a list that is copied -/
def toStep (xs : List α) (d : α) (f : α → Option α) (s1 : Int × List α) : Option ((Int × List α) ⊕ List α) :=
  N.cond (N.lt s1.1 (N.len xs)) (N.ite (0 ≤ s1.1) (N.ite (s1.1 < N.len xs) (N.bind (f (N.rd xs s1.1 d)) fun r1 => N.ite (0 ≤ s1.1) (N.ite (s1.1 < N.len s1.2) (some (.inl (N.add .i64 s1.1 1, N.set s1.2 s1.1 r1))) none) none) none) none) (some (.inr s1.2))

theorem toLoop {xs : List α} {d : α} {f : α → Option α} (hf : ∀ x ∈ xs, f x = some x) (hs : xs.length ≤ 1048576) : loopF (toStep xs d f) (0, N.rep (N.len xs) d) = some xs := by
  have key : ∀ (m k : Nat) (ys : List α), k + m = xs.length → ys.length = xs.length → ys.take k = xs.take k → loopF (toStep xs d f) ((k : Int), ys) = some xs := by
    intro m
    induction m with
    | zero =>
      intro k ys hk hl ht
      refine loopF_inr ?_
      have : ys = xs := by
        rw [show k = xs.length by omega] at ht
        rw [List.take_length, ← hl, List.take_length] at ht
        exact ht
      subst this
      simp only [toStep, lt_d, len_d, cond_dec]
      rw [if_neg (by omega)]
    | succ m ih =>
      intro k ys hk hl ht
      have hlt : k < xs.length := by omega
      rw [loopF_inl (s' := (((k + 1 : Nat) : Int), ys.set k xs[k])) ?_]
      · exact ih (k + 1) _ (by omega) (by simp [hl]) (set_grow hlt hl ht)
      · simp only [toStep, ite_if]; simp only [lt_d, len_d, cond_dec]
        rw [if_pos (by omega), if_pos (by omega), if_pos (by omega), rd_at xs k hlt, hf _ (List.getElem_mem hlt), bind_some', if_pos (by omega), if_pos (by omega), next_id hlt (by omega)]
        rfl
  have := key xs.length 0 (N.rep (N.len xs) d) (by omega) (by simp [N.rep, N.len]) (by simp)
  simpa using this

theorem toS_is {xs : List α} {bytes : Nat} {d : α} {f : α → Option α} (hb : bytes ≤ 10000) (hf : ∀ x ∈ xs, f x = some x) (hs : xs.length ≤ 1048576) :
    N.ite (0 ≤ N.len xs) (N.ite (N.room (N.len xs) bytes) (loopF (toStep xs d f) (0, N.rep (N.len xs) d)) none) none = some xs := by
  rw [nite_pos (by simp [N.len]), nite_pos, toLoop hf hs]
  unfold N.room N.len
  have : (xs.length : Int) * bytes ≤ 1048576 * 10000 := Int.mul_le_mul (by omega) (by omega) (by omega) (by omega)
  omega

/-- an element that comes back as its leaves -/
theorem toS2_is {β : Type} {xs : List α} {bytes : Nat} {d : α} {f : α → Option β} {g : β → α} (hb : bytes ≤ 10000) (hf : ∀ x ∈ xs, ∃ r, f x = some r ∧ g r = x) (hs : xs.length ≤ 1048576) :
    N.ite (0 ≤ N.len xs) (N.ite (N.room (N.len xs) bytes) (loopF (fun (s1 : Int × List α) => N.cond (N.lt s1.1 (N.len xs)) (N.ite (0 ≤ s1.1) (N.ite (s1.1 < N.len xs) (N.bind (f (N.rd xs s1.1 d)) fun r1 => N.ite (0 ≤ s1.1) (N.ite (s1.1 < N.len s1.2) (some (.inl (N.add .i64 s1.1 1, N.set s1.2 s1.1 (g r1)))) none) none) none) none) (some (.inr s1.2))) (0, N.rep (N.len xs) d)) none) none = some xs := by
  have e : (fun (s1 : Int × List α) => N.cond (N.lt s1.1 (N.len xs)) (N.ite (0 ≤ s1.1) (N.ite (s1.1 < N.len xs) (N.bind (f (N.rd xs s1.1 d)) fun r1 => N.ite (0 ≤ s1.1) (N.ite (s1.1 < N.len s1.2) (some (.inl (N.add .i64 s1.1 1, N.set s1.2 s1.1 (g r1)))) none) none) none) none) (some (.inr s1.2))) = toStep xs d (fun y => (f y).map g) := by
    funext s
    unfold toStep
    show _ = N.cond _ (N.ite _ (N.ite _ (N.bind ((f (N.rd xs s.1 d)).map g) _) _) _) _
    cases f (N.rd xs s.1 d) <;> rfl
  rw [e]
  exact toS_is hb (fun x hx => by obtain ⟨r, h1, h2⟩ := hf x hx; rw [h1, Option.map_some, h2]) hs

/-! ## Comparing -/
def eqStep (xs ys : List α) (d : α) (f : α → α → Option Bool) (s1 : Int) : Option (Int ⊕ Bool) :=
  N.cond (N.lt s1 (N.len xs)) (N.ite (0 ≤ s1) (N.ite (s1 < N.len xs) (N.ite (0 ≤ s1) (N.ite (s1 < N.len ys) (N.bind (f (N.rd xs s1 d) (N.rd ys s1 d)) fun r1 => N.cond (N.not r1) (some (.inr false)) (some (.inl (N.add .i64 s1 1)))) none) none) none) none) (some (.inr true))

theorem eqLoop [DecidableEq α] {xs ys : List α} {d : α} {f : α → α → Option Bool} {r : α → α → Bool} (hf : ∀ x ∈ xs, ∀ y ∈ ys, f x y = some (r x y)) (hs : xs.length ≤ 4611686018427387904) (hl : xs.length = ys.length) :
    loopF (eqStep xs ys d f) 0 = some ((List.zip xs ys).all fun p => r p.1 p.2) := by
  have key : ∀ (m k : Nat), k + m = xs.length → loopF (eqStep xs ys d f) (k : Int) = some ((List.zip (xs.drop k) (ys.drop k)).all fun p => r p.1 p.2) := by
    intro m
    induction m with
    | zero =>
      intro k hk
      rw [loopF_inr (r := true) ?_]
      · rw [List.drop_eq_nil_of_le (by omega)]; simp
      · simp only [eqStep, lt_d, len_d, cond_dec]; rw [if_neg (by omega)]
    | succ m ih =>
      intro k hk
      have hlt : k < xs.length := by omega
      have hlt' : k < ys.length := by omega
      rw [List.drop_eq_getElem_cons hlt, List.drop_eq_getElem_cons hlt']
      have hst : eqStep xs ys d f (k : Int) = N.cond (N.not (r xs[k] ys[k])) (some (.inr false)) (some (.inl ((k + 1 : Nat) : Int))) := by
        simp only [eqStep, ite_if]; simp only [lt_d, len_d, cond_dec]
        rw [if_pos (by omega), if_pos (by omega), if_pos (by omega), if_pos (by omega), if_pos (by omega), rd_at xs k hlt, rd_at ys k hlt', hf _ (List.getElem_mem hlt) _ (List.getElem_mem hlt'), bind_some', next_id hlt (by omega)]
      cases hr : r xs[k] ys[k] with
      | true => rw [loopF_inl (s' := ((k + 1 : Nat) : Int)) (by rw [hst, hr]; rfl), ih (k + 1) (by omega)]; simp only [List.zip_cons_cons, List.all_cons, hr, Bool.true_and]
      | false => rw [loopF_inr (r := false) (by rw [hst, hr]; rfl)]; simp only [List.zip_cons_cons, List.all_cons, hr, Bool.false_and]
  simpa using key xs.length 0 (by omega)

theorem zip_all_eq [DecidableEq α] : ∀ {xs ys : List α}, xs.length = ys.length → ((List.zip xs ys).all fun p => decide (p.1 = p.2)) = decide (xs = ys)
  | [], [], _ => by simp
  | x :: xs, y :: ys, h => by
    simp only [List.zip_cons_cons, List.all_cons, zip_all_eq (xs := xs) (ys := ys) (by simpa using h)]
    by_cases h1 : x = y <;> by_cases h2 : xs = ys <;> simp [h1, h2]
  | [], _ :: _, h => by simp at h
  | _ :: _, [], h => by simp at h

theorem eqS_is [DecidableEq α] {xs ys : List α} {d : α} {f : α → α → Option Bool} (hf : ∀ x ∈ xs, ∀ y, f x y = some (decide (x = y))) (hs : xs.length ≤ 4611686018427387904) :
    N.cond (N.ne (N.len xs) (N.len ys)) (some false) (loopF (eqStep xs ys d f) 0) = some (decide (xs = ys)) := by
  simp only [ne_d, len_d, cond_dec]
  split
  · rename_i h
    have : ¬ xs = ys := fun e => h (by rw [e])
    simp [this]
  · rename_i h
    have hl : xs.length = ys.length := by omega
    rw [eqLoop (r := fun x y => decide (x = y)) (fun x hx y _ => hf x hx y) hs hl, zip_all_eq hl]

/-! ## Sizes -/
def SzOk [Data α] (f : α → Int → Option Int) : Prop := ∀ x left, bd x → 0 ≤ left → left ≤ 1048576 → ∃ r, f x left = some r ∧ (r < 0 ∨ (ok x ∧ 0 ≤ r ∧ r ≤ left))

theorem szFlat_is [Data α] [Flat α] : SzOk (fun (xs : List α) (left : Int) => N.cond (N.lt (N.sub .i64 left (N.len xs)) 0) (some (-1)) (some (N.sub .i64 left (N.len xs)))) := by
  intro xs left hb h0 h1
  have h2 := hb.1
  simp only [len_d, lt_d, cond_dec, sub_id (a := left) (b := (xs.length : Int)) (by omega) (by omega)]
  split
  · exact ⟨-1, rfl, .inl (by omega)⟩
  · exact ⟨_, rfl, .inr ⟨⟨by omega, fun x hx => Flat.fl x (hb.2 x hx)⟩, by omega, by omega⟩⟩

def szStep (xs : List α) (d : α) (f : α → Int → Option Int) (s1 : Int × Int) : Option ((Int × Int) ⊕ Int) :=
  N.cond (N.lt s1.2 (N.len xs)) (N.ite (0 ≤ s1.2) (N.ite (s1.2 < N.len xs) (N.bind (f (N.rd xs s1.2 d) s1.1) fun r1 => N.cond (N.lt r1 0) (some (.inr (-1))) (some (.inl (r1, N.add .i64 s1.2 1)))) none) none) (some (.inr s1.1))

theorem szNest_is [Data α] {d : α} {f : α → Int → Option Int} (hf : SzOk f) : SzOk (fun (xs : List α) (left : Int) => N.cond (N.lt (N.sub .i64 left (N.len xs)) 0) (some (-1)) (loopF (szStep xs d f) (N.sub .i64 left (N.len xs), 0))) := by
  intro xs left hb h0 h1
  have h2 := hb.1
  simp only [len_d, lt_d, cond_dec, sub_id (a := left) (b := (xs.length : Int)) (by omega) (by omega)]
  split
  · exact ⟨-1, rfl, .inl (by omega)⟩
  · have key : ∀ (m k : Nat) (l : Int), k + m = xs.length → 0 ≤ l → l ≤ 1048576 → ∃ r, loopF (szStep xs d f) (l, (k : Int)) = some r ∧ (r < 0 ∨ ((∀ x ∈ xs.drop k, ok x) ∧ 0 ≤ r ∧ r ≤ l)) := by
      intro m
      induction m with
      | zero =>
        intro k l hk hl0 hl1
        refine ⟨l, loopF_inr ?_, .inr ⟨fun x hx => ?_, hl0, by omega⟩⟩
        · simp only [szStep, lt_d, len_d, cond_dec]; rw [if_neg (by omega)]
        · rw [List.drop_eq_nil_of_le (by omega)] at hx; cases hx
      | succ m ih =>
        intro k l hk hl0 hl1
        have hlt : k < xs.length := by omega
        obtain ⟨r, e, h⟩ := hf xs[k] l (hb.at hlt) hl0 hl1
        have hst : szStep xs d f (l, (k : Int)) = if r < 0 then some (.inr (-1)) else some (.inl (r, ((k + 1 : Nat) : Int))) := by
          simp only [szStep, ite_if]; simp only [lt_d, len_d, cond_dec]
          rw [if_pos (by omega), if_pos (by omega), if_pos (by omega), rd_at xs k hlt, e, bind_some', next_id hlt (by omega)]
        rcases h with h | ⟨h3, h4, h5⟩
        · exact ⟨-1, loopF_inr (by rw [hst, if_pos h]), .inl (by omega)⟩
        · obtain ⟨r2, e2, h6⟩ := ih (k + 1) r (by omega) h4 (by omega)
          refine ⟨r2, by rw [loopF_inl (by rw [hst, if_neg (by omega)]), e2], h6.imp id fun ⟨h7, h8, h9⟩ => ⟨fun x hx => ?_, h8, by omega⟩⟩
          rw [List.drop_eq_getElem_cons hlt] at hx
          rcases List.mem_cons.1 hx with rfl | hx
          · exact h3
          · exact h7 x hx
    obtain ⟨r, e, h⟩ := key xs.length 0 (left - xs.length) (by omega) (by omega) (by omega)
    refine ⟨r, e, h.imp id fun ⟨h7, h8, h9⟩ => ⟨⟨by omega, by simpa using h7⟩, h8, by omega⟩⟩

end
end Go.Sh
set_option linter.unusedVariables false
set_option linter.unusedSimpArgs false
set_option synthInstance.maxSize 100000
set_option maxHeartbeats 1000000
namespace Go.Sh
open Go Data
namespace D
theorem laws_szIntS_is : SzOk laws_szIntS := szFlat_is

theorem laws_toIntS_is (x : List Int) (h : ok x) : laws_toIntS x = some x := by
  unfold laws_toIntS
  exact toS_is (d := 0) (f := fun y => some y) (by decide) (fun y hy => rfl) h.1

theorem laws_eqIntS_is (x y : List Int) (h : ok x) : laws_eqIntS x y = some (decide (x = y)) := by
  have e : laws_eqIntS x y = N.cond (N.ne (N.len x) (N.len y)) (some false) (loopF (eqStep x y 0 fun a b => some (decide (a = b))) 0) := by
    unfold laws_eqIntS
    congr 2 <;> (funext s; simp only [eqStep, bind_some', ne_d, not_d, cond_dec]; try simp only [ite_not])
  rw [e]
  exact eqS_is (fun a ha b => rfl) (by have := h.1; omega)

theorem laws_szOpS_is : SzOk laws_szOpS := szFlat_is

theorem laws_toOp_is (x : Op) (h : ok x) : laws_toOp x = some x := rfl

theorem laws_toOpS_is (x : List Op) (h : ok x) : laws_toOpS x = some x := by
  unfold laws_toOpS
  exact toS_is (d := (0, 0, 0, 0)) (f := laws_toOp) (by decide) (fun y hy => laws_toOp_is y (h.2 y hy)) h.1

theorem laws_eqAddress_is (x y : Address) (h : ok x) : laws_eqAddress x y = some (decide (x = y)) := by
  obtain ⟨a0, a1, a2⟩ := x; obtain ⟨b0, b1, b2⟩ := y
  unfold laws_eqAddress
  simp only [ne_d, neB_d, not_d, cond_dec, Prod.mk.injEq]
  by_cases e0 : a0 = b0 <;> by_cases e1 : a1 = b1 <;> by_cases e2 : a2 = b2 <;> simp [e0, e1, e2]

theorem laws_eqEntry_is (x y : Entry) (h : ok x) : laws_eqEntry x y = some (decide (x = y)) := by
  obtain ⟨a0, a1, a2⟩ := x; obtain ⟨b0, b1, b2⟩ := y
  unfold laws_eqEntry
  simp only [laws_eqAddress_is _ _ h.2.1, bind_some']
  simp only [ne_d, neB_d, not_d, cond_dec, Prod.mk.injEq]
  by_cases e0 : a0 = b0 <;> by_cases e1 : a1 = b1 <;> by_cases e2 : a2 = b2 <;> simp [e0, e1, e2]

theorem laws_eqEntryS_is (x y : List Entry) (h : ok x) : laws_eqEntryS x y = some (decide (x = y)) := by
  unfold laws_eqEntryS
  exact eqS_is (d := (0, (0, 0, 0), 0)) (f := laws_eqEntry) (fun a ha b => laws_eqEntry_is a b (h.2 a ha)) (by have := h.1; omega)

theorem laws_eqOp_is (x y : Op) (h : ok x) : laws_eqOp x y = some (decide (x = y)) := by
  obtain ⟨a0, a1, a2, a3⟩ := x; obtain ⟨b0, b1, b2, b3⟩ := y
  unfold laws_eqOp
  simp only [ne_d, neB_d, not_d, cond_dec, Prod.mk.injEq]
  by_cases e0 : a0 = b0 <;> by_cases e1 : a1 = b1 <;> by_cases e2 : a2 = b2 <;> by_cases e3 : a3 = b3 <;> simp [e0, e1, e2, e3]

theorem laws_eqOpS_is (x y : List Op) (h : ok x) : laws_eqOpS x y = some (decide (x = y)) := by
  unfold laws_eqOpS
  exact eqS_is (d := (0, 0, 0, 0)) (f := laws_eqOp) (fun a ha b => laws_eqOp_is a b (h.2 a ha)) (by have := h.1; omega)

theorem laws_szEntryS_is : SzOk laws_szEntryS := szFlat_is

theorem laws_toAddress_is (x : Address) (h : ok x) : laws_toAddress x = some x := rfl

theorem laws_toEntry_is (x : Entry) (h : ok x) : laws_toEntry x = some x := by
  unfold laws_toEntry
  rw [laws_toAddress_is _ h.2.1, bind_some']

theorem laws_toEntryS_is (x : List Entry) (h : ok x) : laws_toEntryS x = some x := by
  unfold laws_toEntryS
  exact toS_is (d := (0, (0, 0, 0), 0)) (f := laws_toEntry) (by decide) (fun y hy => laws_toEntry_is y (h.2 y hy)) h.1

theorem laws_szResource_is : SzOk laws_szResource := by
  intro x left hb h0 h1
  unfold laws_szResource
  obtain ⟨r0, e0, g0⟩ := laws_szIntS_is _ left hb.2.1 h0 h1
  rw [e0, bind_some']
  rcases g0 with g0 | ⟨k0, l0, m0⟩
  · exact ⟨-1, by (try simp only [lt_d, cond_dec]); rw [if_pos g0], .inl (by omega)⟩
  (try simp only [lt_d, cond_dec]); rw [if_neg (by omega)]
  exact ⟨_, rfl, .inr ⟨⟨Flat.fl _ hb.1, k0, Flat.fl _ hb.2.2⟩, by omega, by omega⟩⟩

theorem laws_szCapture_is : SzOk laws_szCapture := by
  intro x left hb h0 h1
  unfold laws_szCapture
  obtain ⟨r0, e0, g0⟩ := laws_szResource_is _ left hb.2.2 h0 h1
  rw [e0, bind_some']
  rcases g0 with g0 | ⟨k0, l0, m0⟩
  · exact ⟨-1, by (try simp only [lt_d, cond_dec]); rw [if_pos g0], .inl (by omega)⟩
  (try simp only [lt_d, cond_dec]); rw [if_neg (by omega)]
  exact ⟨_, rfl, .inr ⟨⟨Flat.fl _ hb.1, Flat.fl _ hb.2.1, k0⟩, by omega, by omega⟩⟩

theorem laws_szCaptureS_is : SzOk laws_szCaptureS := szNest_is (d := ((0, 0, 0), 0, (0, [], (0, 0, 0)))) laws_szCapture_is

theorem laws_toResource_is (x : Resource) (h : ok x) : laws_toResource x = some (x.1, x.2.1, x.2.2.1, x.2.2.2.1, x.2.2.2.2) := by
  unfold laws_toResource
  rw [laws_toIntS_is _ h.2.1, bind_some', laws_toAddress_is _ h.2.2, bind_some']

theorem laws_toCapture_is (x : Capture) (h : ok x) : laws_toCapture x = some (x.1.1, x.1.2.1, x.1.2.2, x.2.1, x.2.2.1, x.2.2.2.1, x.2.2.2.2.1, x.2.2.2.2.2.1, x.2.2.2.2.2.2) := by
  unfold laws_toCapture
  rw [laws_toAddress_is _ h.1, bind_some', laws_toResource_is _ h.2.2, bind_some']

theorem laws_toCaptureS_is (x : List Capture) (h : ok x) : laws_toCaptureS x = some x := by
  unfold laws_toCaptureS
  exact toS2_is (d := ((0, 0, 0), 0, (0, [], (0, 0, 0)))) (f := laws_toCapture) (g := fun r => ((r.1, r.2.1, r.2.2.1), r.2.2.2.1, (r.2.2.2.2.1, r.2.2.2.2.2.1, (r.2.2.2.2.2.2.1, r.2.2.2.2.2.2.2.1, r.2.2.2.2.2.2.2.2)))) (by decide) (fun y hy => ⟨_, laws_toCapture_is y (h.2 y hy), rfl⟩) h.1

theorem laws_eqResource_is (x y : Resource) (h : ok x) : laws_eqResource x y = some (decide (x = y)) := by
  obtain ⟨a0, a1, a2⟩ := x; obtain ⟨b0, b1, b2⟩ := y
  unfold laws_eqResource
  simp only [laws_eqIntS_is _ _ h.2.1, laws_eqAddress_is _ _ h.2.2, bind_some']
  simp only [ne_d, neB_d, not_d, cond_dec, Prod.mk.injEq]
  by_cases e0 : a0 = b0 <;> by_cases e1 : a1 = b1 <;> by_cases e2 : a2 = b2 <;> simp [e0, e1, e2]

theorem laws_eqCapture_is (x y : Capture) (h : ok x) : laws_eqCapture x y = some (decide (x = y)) := by
  obtain ⟨a0, a1, a2⟩ := x; obtain ⟨b0, b1, b2⟩ := y
  unfold laws_eqCapture
  simp only [laws_eqAddress_is _ _ h.1, laws_eqResource_is _ _ h.2.2, bind_some']
  simp only [ne_d, neB_d, not_d, cond_dec, Prod.mk.injEq]
  by_cases e0 : a0 = b0 <;> by_cases e1 : a1 = b1 <;> by_cases e2 : a2 = b2 <;> simp [e0, e1, e2]

theorem laws_eqCaptureS_is (x y : List Capture) (h : ok x) : laws_eqCaptureS x y = some (decide (x = y)) := by
  unfold laws_eqCaptureS
  exact eqS_is (d := ((0, 0, 0), 0, (0, [], (0, 0, 0)))) (f := laws_eqCapture) (fun a ha b => laws_eqCapture_is a b (h.2 a ha)) (by have := h.1; omega)

theorem laws_szContainer_is : SzOk laws_szContainer := by
  intro x left hb h0 h1
  unfold laws_szContainer
  obtain ⟨r0, e0, g0⟩ := laws_szOpS_is _ left hb.1 h0 h1
  rw [e0, bind_some']
  rcases g0 with g0 | ⟨k0, l0, m0⟩
  · exact ⟨-1, by (try simp only [lt_d, cond_dec]); rw [if_pos g0], .inl (by omega)⟩
  (try simp only [lt_d, cond_dec]); rw [if_neg (by omega)]
  obtain ⟨r1, e1, g1⟩ := laws_szEntryS_is _ r0 hb.2.1 l0 (by omega)
  rw [e1, bind_some']
  rcases g1 with g1 | ⟨k1, l1, m1⟩
  · exact ⟨-1, by (try simp only [lt_d, cond_dec]); rw [if_pos g1], .inl (by omega)⟩
  (try simp only [lt_d, cond_dec]); rw [if_neg (by omega)]
  obtain ⟨r2, e2, g2⟩ := laws_szCaptureS_is _ r1 hb.2.2.1 l1 (by omega)
  rw [e2, bind_some']
  rcases g2 with g2 | ⟨k2, l2, m2⟩
  · exact ⟨-1, by (try simp only [lt_d, cond_dec]); rw [if_pos g2], .inl (by omega)⟩
  (try simp only [lt_d, cond_dec]); rw [if_neg (by omega)]
  exact ⟨_, rfl, .inr ⟨⟨k0, k1, k2, Flat.fl _ hb.2.2.2⟩, by omega, by omega⟩⟩

theorem laws_toContainer_is (x : Container) (h : ok x) : laws_toContainer x = some x := by
  unfold laws_toContainer
  rw [laws_toOpS_is _ h.1, bind_some', laws_toEntryS_is _ h.2.1, bind_some', laws_toCaptureS_is _ h.2.2.1, bind_some']

theorem laws_eqContainer_is (x y : Container) (h : ok x) : laws_eqContainer x y = some (decide (x = y)) := by
  obtain ⟨a0, a1, a2, a3⟩ := x; obtain ⟨b0, b1, b2, b3⟩ := y
  unfold laws_eqContainer
  simp only [laws_eqOpS_is _ _ h.1, laws_eqEntryS_is _ _ h.2.1, laws_eqCaptureS_is _ _ h.2.2.1, bind_some']
  simp only [ne_d, neB_d, not_d, cond_dec, Prod.mk.injEq]
  by_cases e0 : a0 = b0 <;> by_cases e1 : a1 = b1 <;> by_cases e2 : a2 = b2 <;> by_cases e3 : a3 = b3 <;> simp [e0, e1, e2, e3]

theorem laws_eqState_is (x y : State) (h : ok x) : laws_eqState x y = some (decide (x = y)) := by
  obtain ⟨a0, a1, a2, a3⟩ := x; obtain ⟨b0, b1, b2, b3⟩ := y
  unfold laws_eqState
  simp only [laws_eqIntS_is _ _ h.2.1, laws_eqIntS_is _ _ h.2.2.1, laws_eqIntS_is _ _ h.2.2.2, bind_some']
  simp only [ne_d, neB_d, not_d, cond_dec, Prod.mk.injEq]
  by_cases e0 : a0 = b0 <;> by_cases e1 : a1 = b1 <;> by_cases e2 : a2 = b2 <;> by_cases e3 : a3 = b3 <;> simp [e0, e1, e2, e3]

theorem laws_eqPlayed_is (x y : Played) (h : ok x) : laws_eqPlayed x y = some (decide (x = y)) := by
  obtain ⟨a0, a1, a2⟩ := x; obtain ⟨b0, b1, b2⟩ := y
  unfold laws_eqPlayed
  simp only [laws_eqState_is _ _ h.2.2, bind_some']
  simp only [ne_d, neB_d, not_d, cond_dec, Prod.mk.injEq]
  by_cases e0 : a0 = b0 <;> by_cases e1 : a1 = b1 <;> by_cases e2 : a2 = b2 <;> simp [e0, e1, e2]

end D
end Go.Sh
set_option linter.unusedVariables false
set_option linter.unusedSimpArgs false
set_option synthInstance.maxSize 100000
set_option maxHeartbeats 1000000
namespace Go.Sh
open Go Data
namespace D
theorem spec_l1In_is (a b c : Int) : spec_l1In a b c = some (decide (b ≤ a ∧ a ≤ c)) := by
  unfold spec_l1In
  simp only [ge_d, le_d, cond_dec]
  by_cases h1 : b ≤ a <;> by_cases h2 : a ≤ c <;> simp [h1, h2]

theorem impl_InRange_is (a b c : Int) : impl_InRange a b c = some (decide (b ≤ a ∧ a ≤ c)) := by
  unfold impl_InRange
  simp only [ge_d, le_d, cond_dec]
  by_cases h1 : b ≤ a <;> by_cases h2 : a ≤ c <;> simp [h1, h2]

theorem impl_at_is (a b : Int) : impl_at a b = some (decide (0 ≤ a ∧ a < b)) := by
  unfold impl_at
  simp only [ge_d, lt_d, cond_dec]
  by_cases h1 : 0 ≤ a <;> by_cases h2 : a < b <;> simp [h1, h2]

theorem rem_pos {a b : Int} (ha : 0 ≤ a) : N.rem a b = a % b := by unfold N.rem; exact Int.tmod_eq_emod_of_nonneg ha

end D
end Go.Sh
set_option linter.unusedVariables false
set_option linter.unusedSimpArgs false
set_option synthInstance.maxSize 100000
set_option maxHeartbeats 1000000
namespace Go.Sh
open Go Data
/-! ## Loops that look for something -/
theorem loop_find {α S R : Type} {step : S → Option (S ⊕ R)} (xs : List α) (emb : Nat → S) (p : α → Option R) (r0 : R)
    (hstep : ∀ (k : Nat) (hk : k < xs.length), step (emb k) = some (match p xs[k] with | some r => .inr r | none => .inl (emb (k + 1))))
    (hend : step (emb xs.length) = some (.inr r0)) : loopF step (emb 0) = some ((xs.findSome? p).getD r0) := by
  have key : ∀ (m k : Nat), k + m = xs.length → loopF step (emb k) = some (((xs.drop k).findSome? p).getD r0) := by
    intro m
    induction m with
    | zero =>
      intro k hk
      have hk' : k = xs.length := by omega
      subst hk'
      rw [loopF_inr hend, List.drop_length]; rfl
    | succ m ih =>
      intro k hk
      have hlt : k < xs.length := by omega
      rw [List.drop_eq_getElem_cons hlt, List.findSome?_cons]
      cases hp : p xs[k] with
      | none => rw [loopF_inl (s' := emb (k + 1)) (by rw [hstep k hlt, hp]), ih (k + 1) (by omega)]
      | some r => rw [loopF_inr (r := r) (by rw [hstep k hlt, hp])]; rfl
  simpa using key xs.length 0 (by omega)

theorem loop_all {α S : Type} {step : S → Option (S ⊕ Bool)} (xs : List α) (emb : Nat → S) (p : α → Bool)
    (hstep : ∀ (k : Nat) (hk : k < xs.length), step (emb k) = some (if p xs[k] = true then .inl (emb (k + 1)) else .inr false))
    (hend : step (emb xs.length) = some (.inr true)) : loopF step (emb 0) = some (xs.all p) := by
  rw [loop_find xs emb (fun x => if p x = true then none else some false) true (fun k hk => by rw [hstep k hk]; split <;> rfl) hend]
  congr 1
  clear hstep hend
  induction xs with
  | nil => rfl
  | cons y ys ih2 => rw [List.findSome?_cons, List.all_cons]; cases hp : p y <;> simp [ih2]

/-- looking for a place -/
theorem loop_index {α S : Type} {step : S → Option (S ⊕ Int)} (xs : List α) (emb : Nat → S) (p : α → Bool)
    (hstep : ∀ (k : Nat) (hk : k < xs.length), step (emb k) = some (if p xs[k] = true then .inr (k : Int) else .inl (emb (k + 1))))
    (hend : step (emb xs.length) = some (.inr (-1))) : loopF step (emb 0) = some (if xs.any p = true then (xs.findIdx p : Int) else -1) := by
  have key : ∀ (m k : Nat), k + m = xs.length → loopF step (emb k) = some (if (xs.drop k).any p = true then ((k + (xs.drop k).findIdx p : Nat) : Int) else -1) := by
    intro m
    induction m with
    | zero =>
      intro k hk
      have hk' : k = xs.length := by omega
      subst hk'
      rw [loopF_inr hend, List.drop_length]; rfl
    | succ m ih =>
      intro k hk
      have hlt : k < xs.length := by omega
      rw [List.drop_eq_getElem_cons hlt, List.any_cons, List.findIdx_cons]
      cases hp : p xs[k] with
      | false =>
        rw [loopF_inl (s' := emb (k + 1)) (by rw [hstep k hlt, hp]; rfl), ih (k + 1) (by omega)]
        simp only [Bool.false_or, _root_.cond_false]
        split
        · congr 2; omega
        · rfl
      | true => rw [loopF_inr (r := (k : Int)) (by rw [hstep k hlt, hp]; rfl)]; simp
  simpa using key xs.length 0 (by omega)

namespace D
/-! ## Counts -/

end D
end Go.Sh
set_option linter.unusedVariables false
set_option linter.unusedSimpArgs false
set_option synthInstance.maxSize 100000
set_option maxHeartbeats 1000000
namespace Go.Sh
open Go Data
theorem fitsN {α : Type} {xs ys : List α} {b : Nat} (h : xs.length + ys.length ≤ 100000000) (hb : b ≤ 1000000) : N.fits xs ys b := by
  unfold N.fits
  exact Nat.le_trans (Nat.mul_le_mul h hb) (by decide)

namespace D
theorem addr_eq (x y : Address) : N.both (N.eq x.1 y.1) (N.both (N.eq x.2.1 y.2.1) (N.eq x.2.2 y.2.2)) = decide (x = y) := by
  obtain ⟨a, b, c⟩ := x; obtain ⟨d, e, f⟩ := y
  simp only [eq_d, both_d, Prod.mk.injEq]

end D
end Go.Sh
set_option linter.unusedVariables false
set_option linter.unusedSimpArgs false
set_option synthInstance.maxSize 100000
set_option maxHeartbeats 1000000
namespace Go.Sh
open Go Data
namespace D
end D
end Go.Sh
set_option linter.unusedVariables false
set_option linter.unusedSimpArgs false
set_option synthInstance.maxSize 100000
set_option maxHeartbeats 1000000
namespace Go.Sh
open Go Data
namespace D
end D
end Go.Sh
set_option linter.unusedVariables false
set_option linter.unusedSimpArgs false
set_option synthInstance.maxSize 100000
set_option maxHeartbeats 1000000
namespace Go.Sh
open Go Data
theorem let_eq {α R : Type} (x : α) (f : α → Option R) : N.let_ x f = f x := rfl

theorem len_set {α : Type} (xs : List α) (i : Int) (v : α) : N.len (N.set xs i v) = N.len xs := by simp [N.len, N.set]

theorem rd_set {α : Type} {xs : List α} {i : Nat} (h : i < xs.length) (v d : α) : N.rd (N.set xs (i : Int) v) (i : Int) d = v := by simp [N.rd, N.set, List.getD, h]

theorem set_set {α : Type} (xs : List α) (i : Int) (v w : α) : N.set (N.set xs i v) i w = N.set xs i w := by simp [N.set]

theorem set_at {α : Type} (xs : List α) (i : Nat) (v : α) : N.set xs (i : Int) v = xs.set i v := by simp [N.set]

/-! ## Marks -/
def markL {α : Type} (mk : Int → α → α) (c : Int) : List α → Int → List α
  | [], _ => []
  | x :: xs, k => mk k x :: markL mk c xs (k + c)

theorem markL_len {α : Type} {mk : Int → α → α} {c : Int} : ∀ (xs : List α) (k : Int), (markL mk c xs k).length = xs.length
  | [], _ => rfl
  | x :: xs, k => by simp [markL, markL_len xs]

theorem markL_at {α : Type} {mk : Int → α → α} {c : Int} : ∀ (xs : List α) (k : Int) (i : Nat) (hi : i < xs.length) (hi' : i < (markL mk c xs k).length), (markL mk c xs k)[i] = mk (k + c * i) xs[i]
  | x :: xs, k, 0, _, _ => by simp [markL]
  | x :: xs, k, i + 1, hi, hi' => by
    simp only [markL, List.getElem_cons_succ]
    rw [markL_at xs (k + c) i (by simpa using hi)]
    congr 1
    rw [show ((i + 1 : Nat) : Int) = (i : Int) + 1 from by omega, Int.mul_add, Int.mul_one]; omega

theorem markL_app {α : Type} {mk : Int → α → α} {c : Int} : ∀ (xs ys : List α) (k : Int), markL mk c (xs ++ ys) k = markL mk c xs k ++ markL mk c ys (k + c * xs.length)
  | [], ys, k => by simp [markL]
  | x :: xs, ys, k => by
    simp only [List.cons_append, markL, markL_app xs ys, List.length_cons]
    rw [show ((xs.length + 1 : Nat) : Int) = (xs.length : Int) + 1 from by omega, Int.mul_add, Int.mul_one, show k + c + c * (xs.length : Int) = k + (c * (xs.length : Int) + c) from by omega]

theorem mark_loop {α : Type} {step : Int × Int × List α → Option ((Int × Int × List α) ⊕ (Int × List α))} {c B : Int} {mk : Int → α → α} (hc : 0 ≤ c)
    (hstep : ∀ (k : Int) (i : Nat) (ys : List α) (hi : i < ys.length), 0 ≤ k → k ≤ B → ys.length ≤ 1048576 → step (k, (i : Int), ys) = some (.inl (k + c, ((i + 1 : Nat) : Int), ys.set i (mk k ys[i]))))
    (hend : ∀ (k : Int) (ys : List α), step (k, (ys.length : Int), ys) = some (.inr (k, ys))) {xs : List α} {k : Int} (h0 : 0 ≤ k) (hB : k + c * xs.length ≤ B) (hl : xs.length ≤ 1048576) :
    loopF step (k, 0, xs) = some (k + c * xs.length, markL mk c xs k) := by
  have key : ∀ (m i : Nat), i + m = xs.length → loopF step (k + c * i, (i : Int), markL mk c (xs.take i) k ++ xs.drop i) = some (k + c * xs.length, markL mk c xs k) := by
    intro m
    induction m with
    | zero =>
      intro i hi
      have hi' : i = xs.length := by omega
      subst hi'
      rw [List.take_length, List.drop_length, List.append_nil]
      have := hend (k + c * xs.length) (markL mk c xs k)
      rw [markL_len] at this
      exact loopF_inr this
    | succ m ih =>
      intro i hi
      have hlt : i < xs.length := by omega
      have hle : c * (i : Int) ≤ c * (xs.length : Int) := Int.mul_le_mul_of_nonneg_left (by omega) hc
      have hge : 0 ≤ c * (i : Int) := Int.mul_nonneg hc (by omega)
      have hlen : (markL mk c (xs.take i) k).length = i := by rw [markL_len, List.length_take]; omega
      have hs := hstep (k + c * i) i (markL mk c (xs.take i) k ++ xs.drop i) (by rw [List.length_append, hlen, List.length_drop]; omega) (by omega) (by omega) (by rw [List.length_append, hlen, List.length_drop]; omega)
      rw [loopF_inl hs]
      have e1 : (markL mk c (xs.take i) k ++ xs.drop i)[i]'(by rw [List.length_append, hlen, List.length_drop]; omega) = xs[i] := by
        rw [List.getElem_append_right (by omega)]
        simp only [hlen, Nat.sub_self, List.getElem_drop, Nat.add_zero]
      have e2 : (markL mk c (xs.take i) k ++ xs.drop i).set i (mk (k + c * i) xs[i]) = markL mk c (xs.take (i + 1)) k ++ xs.drop (i + 1) := by
        rw [List.take_succ_eq_append_getElem hlt, markL_app, List.length_take, Nat.min_eq_left (by omega), List.set_append_right _ _ (by omega), hlen, Nat.sub_self, List.drop_eq_getElem_cons hlt, List.set_cons_zero, List.append_assoc]; rfl
      rw [e1, e2, show k + c * (i : Int) + c = k + c * ((i + 1 : Nat) : Int) from by rw [show ((i + 1 : Nat) : Int) = (i : Int) + 1 from by omega, Int.mul_add, Int.mul_one]; omega]
      exact ih (i + 1) (by omega)
  have := key xs.length 0 (by omega)
  simpa [markL] using this

theorem held_loop {α : Type} {step : Int × Int → Option ((Int × Int) ⊕ Int)} {c B : Int} {mk : Int → α → α} {xs : List α} {k : Int} (hc : 0 ≤ c)
    (hstep : ∀ (q : Int) (i : Nat) (hi : i < xs.length) (hi' : i < (markL mk c xs k).length), (markL mk c xs k)[i] = mk q xs[i] → 0 ≤ q → q ≤ B → step (q, (i : Int)) = some (.inl (q + c, ((i + 1 : Nat) : Int))))
    (hend : ∀ (q : Int), step (q, (xs.length : Int)) = some (.inr q)) (h0 : 0 ≤ k) (hB : k + c * xs.length ≤ B) : loopF step (k, 0) = some (k + c * xs.length) := by
  have := loop_upto (step := step) (r := k + c * xs.length) xs.length (fun i (q : Int) => (q, (i : Int))) (fun i => k + c * i) (fun i hi => ?_) ?_
  · simpa using this
  · have hle : c * (i : Int) ≤ c * (xs.length : Int) := Int.mul_le_mul_of_nonneg_left (by omega) hc
    have hge : 0 ≤ c * (i : Int) := Int.mul_nonneg hc (by omega)
    have hi' : i < (markL mk c xs k).length := by rw [markL_len]; exact hi
    rw [hstep (k + c * i) i hi hi' (markL_at xs k i hi hi') (by omega) (by omega)]
    rw [show k + c * (i : Int) + c = k + c * ((i + 1 : Nat) : Int) from by rw [show ((i + 1 : Nat) : Int) = (i : Int) + 1 from by omega, Int.mul_add, Int.mul_one]; omega]
  · rw [hend]

namespace D
def mkEntryS (k : Int) (_ : Entry) : Entry := (k, (k + 1, k + 1 + 1, k + 1 + 1 + 1), k + 1 + 1 + 1 + 1)

theorem laws_markEntryS_is {x : List Entry} {k : Int} (h0 : 0 ≤ k) (hk : k ≤ 8000000000000000000) (h : ok x) : laws_markEntryS x k = some (k + 5 * x.length, markL mkEntryS 5 x k) := by
  have hl := h.1
  refine mark_loop (B := 9000000000000000000) (c := 5) (mk := mkEntryS) (by omega) (fun k i ys hi h0 h1 hl => ?_) (fun k ys => ?_) h0 (by omega) hl
  · have i0 : (0 : Int) ≤ (i : Int) := by omega
    have i1 : (i : Int) < (ys.length : Int) := by omega
    have a0 : N.add .i64 (k) 1 = k + 1 := add_id (by omega) (by omega)
    have a1 : N.add .i64 (k + 1) 1 = k + 1 + 1 := add_id (by omega) (by omega)
    have a2 : N.add .i64 (k + 1 + 1) 1 = k + 1 + 1 + 1 := add_id (by omega) (by omega)
    have a3 : N.add .i64 (k + 1 + 1 + 1) 1 = k + 1 + 1 + 1 + 1 := add_id (by omega) (by omega)
    have a4 : N.add .i64 (k + 1 + 1 + 1 + 1) 1 = k + 1 + 1 + 1 + 1 + 1 := add_id (by omega) (by omega)
    have e : k + 1 + 1 + 1 + 1 + 1 = k + 5 := by omega
    simp only [ite_if]; (try simp only [let_eq, len_set]); simp only [set_set, rd_set hi, lt_d, len_d, cond_dec, i0, i1, if_true, a0, a1, a2, a3, a4, eq_d, next_id hi (by omega), e]
    rw [set_at]; rfl
  · simp only [lt_d, len_d, cond_dec]; rw [if_neg (by omega)]

def mkIntS (k : Int) (_ : Int) : Int := k

theorem laws_markIntS_is {x : List Int} {k : Int} (h0 : 0 ≤ k) (hk : k ≤ 8000000000000000000) (h : ok x) : laws_markIntS x k = some (k + 1 * x.length, markL mkIntS 1 x k) := by
  have hl := h.1
  refine mark_loop (B := 9000000000000000000) (c := 1) (mk := mkIntS) (by omega) (fun k i ys hi h0 h1 hl => ?_) (fun k ys => ?_) h0 (by omega) hl
  · have i0 : (0 : Int) ≤ (i : Int) := by omega
    have i1 : (i : Int) < (ys.length : Int) := by omega
    have a0 : N.add .i64 (k) 1 = k + 1 := add_id (by omega) (by omega)
    have e : k + 1 = k + 1 := by omega
    simp only [ite_if]; (try simp only [let_eq, len_set]); simp only [set_set, rd_set hi, lt_d, len_d, cond_dec, i0, i1, if_true, a0, eq_d, next_id hi (by omega), e]
    rw [set_at]; rfl
  · simp only [lt_d, len_d, cond_dec]; rw [if_neg (by omega)]

theorem laws_heldIntS_is {x : List Int} {k : Int} (h0 : 0 ≤ k) (hk : k ≤ 8000000000000000000) (h : ok x) : laws_heldIntS (markL mkIntS 1 x k) k = some (k + 1 * x.length) := by
  have hl := h.1
  refine held_loop (B := 9000000000000000000) (c := 1) (mk := mkIntS) (xs := x) (by omega) (fun k i hi hi' hm h0 h1 => ?_) (fun q => ?_) h0 (by omega)
  · have i0 : (0 : Int) ≤ (i : Int) := by omega
    have i1 : (i : Int) < (x.length : Int) := by omega
    have a0 : N.add .i64 (k) 1 = k + 1 := add_id (by omega) (by omega)
    have e : k + 1 = k + 1 := by omega
    simp only [ite_if]; simp only [lt_d, len_d, markL_len, cond_dec, i0, i1, if_true, rd_at _ i hi', hm, mkIntS, a0, eq_d, ne_d, neB_d, next_id hi (by omega), e]
    simp
  · simp only [lt_d, len_d, markL_len, cond_dec]; rw [if_neg (by omega)]

def mkOpS (k : Int) (_ : Op) : Op := (k, k + 1, k + 1 + 1, k + 1 + 1 + 1)

theorem laws_markOpS_is {x : List Op} {k : Int} (h0 : 0 ≤ k) (hk : k ≤ 8000000000000000000) (h : ok x) : laws_markOpS x k = some (k + 4 * x.length, markL mkOpS 4 x k) := by
  have hl := h.1
  refine mark_loop (B := 9000000000000000000) (c := 4) (mk := mkOpS) (by omega) (fun k i ys hi h0 h1 hl => ?_) (fun k ys => ?_) h0 (by omega) hl
  · have i0 : (0 : Int) ≤ (i : Int) := by omega
    have i1 : (i : Int) < (ys.length : Int) := by omega
    have a0 : N.add .i64 (k) 1 = k + 1 := add_id (by omega) (by omega)
    have a1 : N.add .i64 (k + 1) 1 = k + 1 + 1 := add_id (by omega) (by omega)
    have a2 : N.add .i64 (k + 1 + 1) 1 = k + 1 + 1 + 1 := add_id (by omega) (by omega)
    have a3 : N.add .i64 (k + 1 + 1 + 1) 1 = k + 1 + 1 + 1 + 1 := add_id (by omega) (by omega)
    have e : k + 1 + 1 + 1 + 1 = k + 4 := by omega
    simp only [ite_if]; (try simp only [let_eq, len_set]); simp only [set_set, rd_set hi, lt_d, len_d, cond_dec, i0, i1, if_true, a0, a1, a2, a3, eq_d, next_id hi (by omega), e]
    rw [set_at]; rfl
  · simp only [lt_d, len_d, cond_dec]; rw [if_neg (by omega)]

end D
end Go.Sh
set_option linter.unusedVariables false
set_option linter.unusedSimpArgs false
set_option synthInstance.maxSize 100000
set_option maxHeartbeats 1000000
namespace Go.Sh
open Go Data
namespace D
end D
end Go.Sh
set_option linter.unusedVariables false
set_option linter.unusedSimpArgs false
set_option synthInstance.maxSize 100000
set_option maxHeartbeats 1000000
namespace Go.Sh
open Go Data
namespace D
/-! ### Ranges of lists -/
theorem impl_allIn_is {l : List Int} (h : l.length ≤ 4611686018427387904) (a b : Int) : impl_allIn l a b = some (l.all fun x => decide (a ≤ x ∧ x ≤ b)) := by
  refine loop_all l (fun k => ((k : Nat) : Int)) (fun x => decide (a ≤ x ∧ x ≤ b)) (fun k hk => ?_) ?_
  · have h0 : (0 : Int) ≤ (k : Int) := by omega
    have h1 : (k : Int) < (l.length : Int) := by omega
    simp only [ite_if]; simp only [lt_d, len_d, cond_dec, h0, h1, if_true, rd_at l k hk, impl_InRange_is, bind_some', not_d, next_id hk (by omega), decide_eq_true_eq]
    by_cases c : a ≤ l[k] ∧ l[k] ≤ b
    · rw [if_neg (by simpa using c), if_pos c]
    · rw [if_pos c, if_neg c]
  · simp only [lt_d, len_d, cond_dec]; rw [if_neg (by omega)]

/-! ### Addresses, resources, captures -/
def addrP (a : Address) : Bool := decide (1 ≤ a.1 ∧ a.1 ≤ 9) && decide (0 ≤ a.2.1 ∧ a.2.1 ≤ 99) && decide (0 ≤ a.2.2 ∧ a.2.2 ≤ 99)

theorem spec_IsAddress_is (a : Address) : spec_IsAddress a = some (addrP a) := by
  unfold spec_IsAddress addrP
  simp only [spec_l1In_is, bind_some']
  cases decide (1 ≤ a.1 ∧ a.1 ≤ 9) <;> cases decide (0 ≤ a.2.1 ∧ a.2.1 ≤ 99) <;> simp

theorem impl_IsAddress_is (a : Address) : impl_IsAddress a = some (addrP a) := by
  unfold impl_IsAddress addrP
  simp only [impl_InRange_is, bind_some']
  cases decide (1 ≤ a.1 ∧ a.1 ≤ 9) <;> cases decide (0 ≤ a.2.1 ∧ a.2.1 ≤ 99) <;> simp

theorem zero_addr (a : Address) : N.both (N.eq a.1 0) (N.both (N.eq a.2.1 0) (N.eq a.2.2 0)) = decide (a = (0, 0, 0)) := addr_eq a (0, 0, 0)

end D
end Go.Sh
set_option linter.unusedVariables false
set_option linter.unusedSimpArgs false
set_option synthInstance.maxSize 100000
set_option maxHeartbeats 1000000
namespace Go.Sh
open Go Data
theorem find_all {α : Type} (xs : List α) (p : α → Bool) (q : Bool) : ((xs.findSome? fun x => if p x = true then none else some false).getD q) = (xs.all p && q) := by
  induction xs with
  | nil => simp
  | cons y ys ih =>
    rw [List.findSome?_cons, List.all_cons]
    cases hb : p y
    · simp
    · simpa using ih

namespace D
end D
end Go.Sh
set_option linter.unusedVariables false
set_option linter.unusedSimpArgs false
set_option synthInstance.maxSize 100000
set_option maxHeartbeats 1000000
namespace Go.Sh
open Go Data
theorem nilc_same {α : Type} {x : List α} {y : Option (List α)} (h : y = some x) : N.nilc (N.isE x) (some []) y = some x := by
  unfold N.nilc
  subst h
  cases x with
  | nil => simp [N.isE]
  | cons a x => simp [N.isE]

namespace D
/-! ## Copies -/
theorem slices_Clone_int_is {l : List Int} (h : l.length ≤ 100000000) : slices_Clone_int l = some l := by
  unfold slices_Clone_int
  refine nilc_same ?_
  rw [nite_pos (fitsN (by simpa using h) (by omega))]; simp [N.app]

end D
end Go.Sh
set_option linter.unusedVariables false
set_option linter.unusedSimpArgs false
set_option synthInstance.maxSize 100000
set_option maxHeartbeats 1000000
namespace Go.Sh
open Go Data
/-! ## What is drawn: it comes back, and keeps its bounds -/
def Gets {α : Type} (P : α → Prop) (r : Option α) : Prop := ∃ x, r = some x ∧ P x

section
variable {α β S R : Type} {P : α → Prop} {Q : R → Prop}
theorem Gets.pure {x : R} (h : Q x) : Gets Q (some x) := ⟨x, rfl, h⟩

theorem Gets.bind {x : Option α} {f : α → Option R} (h : Gets P x) (hf : ∀ a, P a → Gets Q (f a)) : Gets Q (N.bind x f) := by
  obtain ⟨a, rfl, ha⟩ := h; exact hf a ha

theorem Gets.cond {b : Bool} {x y : Option R} (h1 : b = true → Gets Q x) (h2 : b = false → Gets Q y) : Gets Q (N.cond b x y) := by
  unfold N.cond; cases b
  · exact h2 rfl
  · exact h1 rfl

theorem Gets.ite {c : Prop} [Decidable c] {x y : Option R} (hc : c) (h : Gets Q x) : Gets Q (N.ite c x y) := by rw [nite_pos hc]; exact h

theorem Gets.let_ {x : α} {f : α → Option R} (h : Gets Q (f x)) : Gets Q (N.let_ x f) := h

theorem Gets.mono {Q' : R → Prop} {x : Option R} (h : Gets Q x) (hq : ∀ a, Q a → Q' a) : Gets Q' x := by
  obtain ⟨a, e, ha⟩ := h; exact ⟨a, e, hq a ha⟩

end
theorem ok_num {x : Int} (h1 : -9223372036854775808 ≤ x) (h2 : x < 9223372036854775808) : ok x := ⟨h1, h2⟩

def few {α : Type} [Data α] (n : Nat) (xs : List α) : Prop := xs.length ≤ n ∧ ∀ x ∈ xs, ok x

theorem few.ok {α : Type} [Data α] {n : Nat} {xs : List α} (h : few n xs) (hn : n ≤ 1048576) : ok xs := ⟨Nat.le_trans h.1 hn, h.2⟩

theorem few.app {α : Type} [Data α] {n m : Nat} {xs : List α} {x : α} (h : few n xs) (hx : Data.ok x) (hm : n + 1 ≤ m) : few m (N.app xs [x]) :=
  ⟨by have := h.1; simp [N.app]; omega, fun y hy => by
    rcases List.mem_append.1 hy with hy | hy
    · exact h.2 y hy
    · simp at hy; subst hy; exact hx⟩

theorem few.set {α : Type} [Data α] {n : Nat} {xs : List α} {x : α} {i : Int} (h : few n xs) (hx : Data.ok x) : few n (N.set xs i x) :=
  ⟨by have := h.1; simp [N.set]; omega, fun y hy => by
    rcases List.mem_or_eq_of_mem_set hy with hy | hy
    · exact h.2 y hy
    · subst hy; exact hx⟩

theorem few.rd {α : Type} [Data α] {n : Nat} {xs : List α} {i : Int} {d : α} (h : few n xs) (hd : Data.ok d) : Data.ok (N.rd xs i d) := by
  unfold N.rd
  rw [List.getD_eq_getElem?_getD]
  cases e : xs[i.toNat]? with
  | none => exact hd
  | some x => exact h.2 x (List.mem_of_getElem? e)

namespace D
theorem few.mono {α : Type} [Data α] {n m : Nat} {xs : List α} (h : few n xs) (hm : n ≤ m) : few m xs := ⟨Nat.le_trans h.1 hm, h.2⟩

end D
end Go.Sh
set_option linter.unusedVariables false
set_option linter.unusedSimpArgs false
set_option synthInstance.maxSize 100000
set_option maxHeartbeats 2000000
namespace Go.Sh
open Go Data
namespace D
end D
end Go.Sh
set_option linter.unusedVariables false
set_option linter.unusedSimpArgs false
set_option synthInstance.maxSize 100000
set_option maxHeartbeats 2000000
namespace Go.Sh
open Go Data
namespace D
end D
end Go.Sh
set_option linter.unusedVariables false
set_option linter.unusedSimpArgs false
set_option synthInstance.maxSize 100000
set_option maxHeartbeats 4000000
namespace Go.Sh
open Go Data
namespace D
end D
end Go.Sh
set_option linter.unusedVariables false
set_option linter.unusedSimpArgs false
set_option synthInstance.maxSize 100000
set_option maxHeartbeats 4000000
namespace Go.Sh
open Go Data
namespace D
/-! ## Scripts -/
def opP (o : Op) : Bool := decide (0 ≤ o.2.1 ∧ o.2.1 ≤ 3) &&
  (if o.1 = 1 then decide (1 ≤ o.2.2.1 ∧ o.2.2.1 ≤ 9) && decide (0 ≤ o.2.2.2 ∧ o.2.2.2 ≤ 99)
   else if o.1 = 2 ∨ o.1 = 3 ∨ o.1 = 4 then decide (o.2.2.1 = 0) && decide (o.2.2.2 = 0)
   else if o.1 = 5 then decide (0 ≤ o.2.2.1 ∧ o.2.2.1 ≤ 3) && decide (0 ≤ o.2.2.2 ∧ o.2.2.2 ≤ 3)
   else if o.1 = 6 then decide (0 ≤ o.2.2.1 ∧ o.2.2.1 ≤ 3) && decide (o.2.2.2 = 0)
   else if o.1 = 7 then decide (1 ≤ o.2.2.1 ∧ o.2.2.1 ≤ 3) && decide (o.2.2.2 = 0)
   else if o.1 = 8 ∨ o.1 = 9 then decide (0 ≤ o.2.2.1 ∧ o.2.2.1 ≤ 2) && decide (o.2.2.2 = 0)
   else false)

theorem and_cond (p q : Prop) [Decidable p] [Decidable q] : (if p then some (decide q) else some false) = some (decide p && decide q) := by by_cases h : p <;> simp [h]

theorem spec_l10Ok_is (o : Op) : spec_l10Ok o = some (opP o) := by
  obtain ⟨k, r, a, b⟩ := o
  unfold spec_l10Ok opP
  simp only [spec_l1In_is, bind_some', not_d, eq_d, cond_dec, and_cond]
  by_cases h0 : 0 ≤ r ∧ r ≤ 3
  · rw [if_neg (by simpa using h0)]
    simp only [h0, and_self, decide_true, Bool.true_and]
    by_cases h1 : k = 1
    · simp [h1]
    by_cases h2 : k = 2
    · simp [h2]
    by_cases h3 : k = 3
    · simp [h3]
    by_cases h4 : k = 4
    · simp [h4]
    by_cases h5 : k = 5
    · simp [h5]
    by_cases h6 : k = 6
    · simp [h6]
    by_cases h7 : k = 7
    · simp [h7]
    by_cases h8 : k = 8
    · simp [h8]
    by_cases h9 : k = 9
    · simp [h9]
    simp [h1, h2, h3, h4, h5, h6, h7, h8, h9]
  · rw [if_pos h0]; simp only [h0, decide_false, Bool.false_and]

theorem at_in (a : Int) (n m : Int) (h : m = n + 1) : impl_at a m = spec_l1In a 0 n := by
  rw [impl_at_is, spec_l1In_is, h]; congr 1; exact decide_eq_decide.2 (by omega)

theorem inRange_in (a b c : Int) : impl_InRange a b c = spec_l1In a b c := by rw [impl_InRange_is, spec_l1In_is]

theorem impl_isOp_is (o : Op) : impl_isOp o = some (opP o) := by
  rw [← spec_l10Ok_is]
  unfold impl_isOp spec_l10Ok
  simp only [at_in _ 3 4 (by omega), at_in _ 2 3 (by omega), inRange_in]

def scriptP (l : List Op) : Bool := decide (l.length ≤ 16) && l.all opP

theorem spec_IsScript_is {l : List Op} (h : l.length ≤ 4611686018427387904) : spec_IsScript l = some (scriptP l) := by
  refine (loop_find l (fun k => ((k : Nat) : Int)) (fun o => if opP o = true then none else some false) (decide (l.length ≤ 16)) (fun k hk => ?_) ?_).trans ?_
  · have h0 : (0 : Int) ≤ (k : Int) := by omega
    have h1 : (k : Int) < (l.length : Int) := by omega
    simp only [ite_if]; simp only [lt_d, len_d, cond_dec, h0, h1, if_true, rd_at l k hk, spec_l10Ok_is, bind_some', not_b, next_id hk (by omega)]
    cases opP l[k] <;> rfl
  · simp only [lt_d, le_d, len_d, cond_dec]; rw [if_neg (by omega)]; congr 2; exact decide_eq_decide.2 (by omega)
  · rw [find_all, Bool.and_comm]; rfl

theorem not_any {α : Type} (l : List α) (p : α → Bool) : (!l.any fun x => !p x) = l.all p := by
  induction l with
  | nil => rfl
  | cons x l ih => rw [List.any_cons, List.all_cons, ← ih]; cases p x <;> simp

theorem impl_IsScript_is {l : List Op} (h : l.length ≤ 4611686018427387904) : impl_IsScript l = some (scriptP l) := by
  have e : slices_ContainsFunc_Op_impl_IsScript_1 l = some (l.any fun o => !opP o) := by
    unfold slices_ContainsFunc_Op_impl_IsScript_1
    rw [show slices_IndexFunc_Op_impl_IsScript_1 l = some (if (l.any fun o => !opP o) = true then (l.findIdx fun o => !opP o : Int) else -1) from by
      refine loop_index l (fun k => ((k : Nat) : Int)) (fun o => !opP o) (fun k hk => ?_) ?_
      · have h0 : (0 : Int) ≤ (k : Int) := by omega
        have h1 : (k : Int) < (l.length : Int) := by omega
        simp only [ite_if]; simp only [lt_d, len_d, cond_dec, h0, h1, if_true, rd_at l k hk, impl_IsScript_1, impl_isOp_is, bind_some', not_b, next_id hk (by omega)]
        cases opP l[k] <;> rfl
      · simp only [lt_d, len_d, cond_dec]; rw [if_neg (by omega)], bind_some', ge_d]
    cases (l.any fun o => !opP o) <;> simp
  unfold impl_IsScript scriptP
  rw [e, bind_some', not_b, not_any, le_d, len_d, cond_dec]
  by_cases h16 : l.length ≤ 16
  · rw [if_pos (by omega)]; simp [h16]
  · rw [if_neg (by omega)]; simp [h16]

/-! ## Entries -/
theorem spec_Asks_is (k : Int) : spec_Asks k = some (decide (1 ≤ k ∧ k ≤ 4)) := by unfold spec_Asks; rw [spec_l1In_is]; rfl

theorem impl_Asks_is (k : Int) : impl_Asks k = some (decide (1 ≤ k ∧ k ≤ 4)) := by unfold impl_Asks; rw [impl_InRange_is]; rfl

def entryP (e : Entry) : Bool := decide (1 ≤ e.1 ∧ e.1 ≤ 4) && decide (0 ≤ e.2.2 ∧ e.2.2 ≤ 999) && (if e.1 = 1 then addrP e.2.1 else decide (e.2.1 = (0, 0, 0)))

def entriesP (l : List Entry) : Bool := decide (l.length ≤ 16) && l.all entryP

theorem spec_AreEntries_is {l : List Entry} (h : l.length ≤ 4611686018427387904) : spec_AreEntries l = some (entriesP l) := by
  refine (loop_find l (fun k => ((k : Nat) : Int)) (fun o => if entryP o = true then none else some false) (decide (l.length ≤ 16)) (fun k hk => ?_) ?_).trans ?_
  · have h0 : (0 : Int) ≤ (k : Int) := by omega
    have h1 : (k : Int) < (l.length : Int) := by omega
    simp only [ite_if, zero_addr]; simp only [lt_d, len_d, cond_dec, h0, h1, if_true, rd_at l k hk, spec_Asks_is, spec_l1In_is, spec_IsAddress_is, bind_some', not_d, not_b, eq_d, ne_d, next_id hk (by omega)]
    unfold entryP
    generalize l[k] = e
    obtain ⟨a, b, c⟩ := e
    simp only
    by_cases c1 : 1 ≤ a ∧ a ≤ 4 <;> by_cases c2 : 0 ≤ c ∧ c ≤ 999 <;> by_cases c3 : a = 1 <;> by_cases c4 : b = (0, 0, 0) <;> cases c5 : addrP b <;> simp [c1, c2, c3, c4, c5]
  · simp only [lt_d, le_d, len_d, cond_dec]; rw [if_neg (by omega)]; congr 2; exact decide_eq_decide.2 (by omega)
  · rw [find_all, Bool.and_comm]; rfl

theorem impl_AreEntries_1_is (e : Entry) : impl_AreEntries_1 e = some (!entryP e) := by
  obtain ⟨a, b, c⟩ := e
  unfold impl_AreEntries_1 entryP
  simp only [zero_addr]
  simp only [impl_IsAddress_is, impl_Asks_is, impl_InRange_is, bind_some', not_d, not_b, eq_d, cond_dec]
  by_cases c1 : 1 ≤ a ∧ a ≤ 4 <;> by_cases c2 : 0 ≤ c ∧ c ≤ 999 <;> by_cases c3 : a = 1 <;> by_cases c4 : b = (0, 0, 0) <;> cases c5 : addrP b <;> simp [c1, c2, c3, c4, c5] <;> omega

theorem impl_AreEntries_is {l : List Entry} (h : l.length ≤ 4611686018427387904) : impl_AreEntries l = some (entriesP l) := by
  have e : slices_ContainsFunc_Entry_impl_AreEntries_1 l = some (l.any fun o => !entryP o) := by
    unfold slices_ContainsFunc_Entry_impl_AreEntries_1
    rw [show slices_IndexFunc_Entry_impl_AreEntries_1 l = some (if (l.any fun o => !entryP o) = true then (l.findIdx fun o => !entryP o : Int) else -1) from by
      refine loop_index l (fun k => ((k : Nat) : Int)) (fun o => !entryP o) (fun k hk => ?_) ?_
      · have h0 : (0 : Int) ≤ (k : Int) := by omega
        have h1 : (k : Int) < (l.length : Int) := by omega
        simp only [ite_if]; simp only [lt_d, len_d, cond_dec, h0, h1, if_true, rd_at l k hk, impl_AreEntries_1_is, bind_some', next_id hk (by omega)]
        cases entryP l[k] <;> rfl
      · simp only [lt_d, len_d, cond_dec]; rw [if_neg (by omega)], bind_some', ge_d]
    cases (l.any fun o => !entryP o) <;> simp
  unfold impl_AreEntries entriesP
  rw [e, bind_some', not_b, not_any, le_d, len_d, cond_dec]
  by_cases h16 : l.length ≤ 16
  · rw [if_pos (by omega)]; simp [h16]
  · rw [if_neg (by omega)]; simp [h16]

end D
end Go.Sh
set_option linter.unusedVariables false
set_option linter.unusedSimpArgs false
set_option synthInstance.maxSize 100000
set_option maxHeartbeats 4000000
namespace Go.Sh
open Go Data
namespace D
/-! ## States of a script -/
def lst (l : List Int) (n : Nat) : Bool := (l.all fun x => decide (0 ≤ x ∧ x ≤ 999)) && decide (l.length = n)

def stateP (s : State) : Bool := decide (0 ≤ s.1 ∧ s.1 ≤ 19) && (lst s.2.1 4 && (lst s.2.2.1 3 && lst s.2.2.2 4))

def canP (l : List Op) (s : State) : Bool := scriptP l && stateP s && decide (s.1 < (l.length : Int))

theorem spec_l11All_is {l : List Int} (h : l.length ≤ 4611686018427387904) (n : Nat) : spec_l11All l (n : Int) = some (lst l n) := by
  refine (loop_find l (fun k => ((k : Nat) : Int)) (fun x => if decide (0 ≤ x ∧ x ≤ 999) = true then none else some false) (decide (l.length = n)) (fun k hk => ?_) ?_).trans ?_
  · have h0 : (0 : Int) ≤ (k : Int) := by omega
    have h1 : (k : Int) < (l.length : Int) := by omega
    simp only [ite_if]; simp only [lt_d, len_d, cond_dec, h0, h1, if_true, rd_at l k hk, spec_l1In_is, bind_some', not_b, next_id hk (by omega)]
    cases decide (0 ≤ l[k] ∧ l[k] ≤ 999) <;> rfl
  · simp only [lt_d, eq_d, len_d, cond_dec]; rw [if_neg (by omega)]; congr 2; exact decide_eq_decide.2 (by omega)
  · rw [find_all]; rfl

theorem spec_IsState_is {s : State} (h : ok s) : spec_IsState s = some (stateP s) := by
  obtain ⟨_, ⟨h1, _⟩, ⟨h2, _⟩, ⟨h3, _⟩⟩ := h
  unfold spec_IsState stateP
  rw [spec_l1In_is, bind_some', show (4 : Int) = ((4 : Nat) : Int) from rfl, show (3 : Int) = ((3 : Nat) : Int) from rfl, spec_l11All_is (by omega), bind_some', spec_l11All_is (by omega), bind_some', spec_l11All_is (by omega), bind_some']
  cases decide (0 ≤ s.1 ∧ s.1 ≤ 19) <;> cases lst s.2.1 4 <;> cases lst s.2.2.1 3 <;> simp

theorem impl_IsState_is {s : State} (h : ok s) : impl_IsState s = some (stateP s) := by
  obtain ⟨_, ⟨h1, _⟩, ⟨h2, _⟩, ⟨h3, _⟩⟩ := h
  unfold impl_IsState stateP lst
  simp only [impl_InRange_is, bind_some', impl_allIn_is (l := s.2.1) (by omega), impl_allIn_is (l := s.2.2.1) (by omega), impl_allIn_is (l := s.2.2.2) (by omega), eq_d, len_d, cond_dec]
  have e1 : ((s.2.1.length : Int) = 4) = (s.2.1.length = 4) := propext (by omega)
  have e2 : ((s.2.2.1.length : Int) = 3) = (s.2.2.1.length = 3) := propext (by omega)
  have e3 : ((s.2.2.2.length : Int) = 4) = (s.2.2.2.length = 4) := propext (by omega)
  simp only [e1, e2, e3]
  by_cases c0 : 0 ≤ s.1 ∧ s.1 ≤ 19 <;> by_cases c1 : s.2.1.length = 4 <;> by_cases c2 : s.2.2.1.length = 3 <;> by_cases c3 : s.2.2.2.length = 4 <;> simp only [c0, c1, c2, c3, if_true, if_false, and_self, decide_true, decide_false, Bool.and_true, Bool.and_false, Bool.true_and, Bool.false_and]
  cases (s.2.1.all fun x => decide (0 ≤ x ∧ x ≤ 999)) <;> cases (s.2.2.1.all fun x => decide (0 ≤ x ∧ x ≤ 999)) <;> simp

theorem spec_l11Can_is {l : List Op} {s : State} (hl : ok l) (hs : ok s) : spec_l11Can l s = some (canP l s) := by
  have := hl.1
  unfold spec_l11Can canP
  rw [spec_IsScript_is (by omega), bind_some', spec_IsState_is hs, bind_some', lt_d, len_d]
  cases scriptP l <;> cases stateP s <;> simp

theorem impl_canStep_is {l : List Op} {s : State} (hl : ok l) (hs : ok s) : impl_canStep l s = some (canP l s) := by
  have := hl.1
  unfold impl_canStep canP
  rw [impl_IsScript_is (by omega), bind_some', impl_IsState_is hs, bind_some', lt_d, len_d]
  cases scriptP l <;> cases stateP s <;> simp

theorem lst_ok {l : List Int} {n : Nat} (h : lst l n = true) (hn : n ≤ 4) : ok l := by
  unfold lst at h
  simp only [Bool.and_eq_true, List.all_eq_true, decide_eq_true_eq] at h
  exact ⟨by omega, fun x hx => ok_num (by have := h.1 x hx; omega) (by have := h.1 x hx; omega)⟩

theorem lst_len {l : List Int} {n : Nat} (h : lst l n = true) : N.len l = (n : Int) := by
  unfold lst at h
  simp only [Bool.and_eq_true, decide_eq_true_eq] at h
  rw [len_d, h.2]

theorem lst_set {l : List Int} {n : Nat} {i v : Int} (h : lst l n = true) (hv : 0 ≤ v ∧ v ≤ 999) : lst (N.set l i v) n = true := by
  unfold lst at h ⊢
  simp only [Bool.and_eq_true, List.all_eq_true, decide_eq_true_eq] at h ⊢
  refine ⟨fun x hx => ?_, by simp [N.set, h.2]⟩
  rcases List.mem_or_eq_of_mem_set hx with hx | rfl
  · exact h.1 x hx
  · exact hv

theorem lst_rd {l : List Int} {n : Nat} (i : Int) (h : lst l n = true) : 0 ≤ N.rd l i 0 ∧ N.rd l i 0 ≤ 999 := by
  unfold lst at h
  simp only [Bool.and_eq_true, List.all_eq_true, decide_eq_true_eq] at h
  unfold N.rd
  rw [List.getD_eq_getElem?_getD]
  cases e : l[i.toNat]? with
  | none => exact ⟨by simp, by simp⟩
  | some x => exact h.1 x (List.mem_of_getElem? e)

theorem state_ok {s : State} (h : stateP s = true) : ok s := by
  unfold stateP at h
  simp only [Bool.and_eq_true, decide_eq_true_eq] at h
  exact ⟨ok_num (by omega) (by omega), lst_ok h.2.1 (by omega), lst_ok h.2.2.1 (by omega), lst_ok h.2.2.2 (by omega)⟩

theorem opP_reg {o : Op} (h : opP o = true) : 0 ≤ o.2.1 ∧ o.2.1 < 4 := by
  unfold opP at h; simp only [Bool.and_eq_true, decide_eq_true_eq] at h; omega

theorem opP_5 {o : Op} (h : opP o = true) (h5 : o.1 = 5) : (0 ≤ o.2.2.1 ∧ o.2.2.1 < 4) ∧ 0 ≤ o.2.2.2 ∧ o.2.2.2 < 4 := by
  unfold opP at h; rw [h5] at h; simp at h; omega

theorem opP_6 {o : Op} (h : opP o = true) (h5 : o.1 = 6) : 0 ≤ o.2.2.1 ∧ o.2.2.1 < 4 := by
  unfold opP at h; rw [h5] at h; simp at h; omega

theorem opP_7 {o : Op} (h : opP o = true) (h5 : o.1 = 7) : 1 ≤ o.2.2.1 ∧ o.2.2.1 < 4 := by
  unfold opP at h; rw [h5] at h; simp at h; omega

theorem opP_8 {o : Op} (h : opP o = true) (h5 : o.1 = 8) : 0 ≤ o.2.2.1 ∧ o.2.2.1 < 3 := by
  unfold opP at h; rw [h5] at h; simp at h; omega

theorem opP_9 {o : Op} (h : opP o = true) (h5 : o.1 = 9) : 0 ≤ o.2.2.1 ∧ o.2.2.1 < 3 := by
  unfold opP at h; rw [h5] at h; simp at h; omega

structure Can (l : List Op) (s : State) : Prop where
  pos : 0 ≤ s.1
  lt : s.1 < N.len l
  len : l.length ≤ 16
  op : opP (N.rd l s.1 (0, 0, 0, 0)) = true
  regs : lst s.2.1 4 = true
  vars : lst s.2.2.1 3 = true
  outs : lst s.2.2.2 4 = true

theorem canP_spec {l : List Op} {s : State} (h : canP l s = true) : Can l s := by
  unfold canP stateP scriptP at h
  simp only [Bool.and_eq_true, decide_eq_true_eq, List.all_eq_true] at h
  obtain ⟨⟨⟨h1, h2⟩, ⟨h3, h4, h5, h6⟩⟩, h7⟩ := h
  refine ⟨h3.1, by rw [len_d]; exact h7, h1, ?_, h4, h5, h6⟩
  obtain ⟨p, x⟩ := s
  simp only at h3 h7 ⊢
  obtain ⟨k, rfl⟩ : ∃ k : Nat, p = (k : Int) := ⟨p.toNat, by omega⟩
  rw [rd_at l k (by omega)]
  exact h2 _ (List.getElem_mem _)

/-! ## What a step asks for -/
def wantP (l : List Op) (s : State) : Want :=
  if canP l s = true then
    (if 1 ≤ (N.rd l s.1 (0, 0, 0, 0)).1 ∧ (N.rd l s.1 (0, 0, 0, 0)).1 ≤ 4 then
      (if (N.rd l s.1 (0, 0, 0, 0)).1 = 1 then ((N.rd l s.1 (0, 0, 0, 0)).1, ((N.rd l s.1 (0, 0, 0, 0)).2.2.1, (N.rd l s.1 (0, 0, 0, 0)).2.2.2, N.rem (N.rd s.2.1 ((N.rd l s.1 (0, 0, 0, 0)).2.1) 0) 100))
        else ((N.rd l s.1 (0, 0, 0, 0)).1, (0, 0, 0)))
    else (0, (0, 0, 0)))
  else (0, (0, 0, 0))

theorem want_in (l : List Op) (s : State) : 0 ≤ (wantP l s).1 ∧ (wantP l s).1 ≤ 4 := by
  unfold wantP
  split
  · split
    · split <;> simp only <;> omega
    · simp
  · simp

theorem spec_WantOf_is {l : List Op} {s : State} (hl : ok l) (hs : ok s) : spec_WantOf l s = some (wantP l s) := by
  unfold spec_WantOf wantP
  rw [spec_l11Can_is hl hs, bind_some', not_b, cond_if]
  cases hc : canP l s with
  | false => simp
  | true =>
    have c := canP_spec hc
    have r := opP_reg c.op
    have e := lst_len c.regs
    simp only [Bool.not_true, Bool.false_eq_true, if_false, if_true, ite_if, c.pos, c.lt, spec_Asks_is, bind_some', not_d, eq_d, cond_dec, e, r.1, show (N.rd l s.1 (0, 0, 0, 0)).2.1 < ((4 : Nat) : Int) from r.2]
    by_cases h1 : 1 ≤ (N.rd l s.1 (0, 0, 0, 0)).1 ∧ (N.rd l s.1 (0, 0, 0, 0)).1 ≤ 4
    · rw [if_neg (by simpa using h1), if_pos h1]; split <;> rfl
    · rw [if_pos h1, if_neg h1]

theorem impl_WantOf_is {l : List Op} {s : State} (hl : ok l) (hs : ok s) : impl_WantOf l s = some (wantP l s) := by
  unfold impl_WantOf wantP
  rw [impl_canStep_is hl hs, bind_some', not_b, cond_if]
  cases hc : canP l s with
  | false => simp
  | true =>
    have c := canP_spec hc
    have r := opP_reg c.op
    have e := lst_len c.regs
    simp only [Bool.not_true, Bool.false_eq_true, if_false, if_true, ite_if, c.pos, c.lt, impl_Asks_is, bind_some', not_d, eq_d, cond_dec, e, r.1, show (N.rd l s.1 (0, 0, 0, 0)).2.1 < ((4 : Nat) : Int) from r.2]
    by_cases h1 : 1 ≤ (N.rd l s.1 (0, 0, 0, 0)).1 ∧ (N.rd l s.1 (0, 0, 0, 0)).1 ≤ 4
    · rw [if_neg (by simpa using h1), if_pos h1]; split <;> rfl
    · rw [if_pos h1, if_neg h1]

/-! ## Steps -/
theorem spec_l11Copy_is {s : State} (h : ok s) : spec_l11Copy s = some s := by
  obtain ⟨_, ⟨h1, _⟩, ⟨h2, _⟩, ⟨h3, _⟩⟩ := h
  unfold spec_l11Copy
  rw [nite_pos (fitsN (by simp; omega) (by omega)), nite_pos (fitsN (by simp; omega) (by omega)), nite_pos (fitsN (by simp; omega) (by omega))]
  simp [N.app]

theorem impl_copyState_is {s : State} (h : ok s) : impl_copyState s = some s := by
  obtain ⟨_, ⟨h1, _⟩, ⟨h2, _⟩, ⟨h3, _⟩⟩ := h
  unfold impl_copyState
  rw [slices_Clone_int_is (by omega), bind_some', slices_Clone_int_is (by omega), bind_some', slices_Clone_int_is (by omega), bind_some']

theorem minmax (x : Int) {R : Type} (K : Int → Option R) : (N.bind (spec_Min 999 x) fun r3 => N.bind (spec_Max 0 r3) fun r4 => K r4) = K (N.min (N.max x 0) 999) := by
  simp only [spec_Min, spec_Max, lt_d, gt_d, cond_dec, N.min, N.max]
  by_cases h1 : x < 999
  · rw [if_pos h1, bind_some']
    by_cases h2 : 0 < x
    · rw [if_pos h2, bind_some']; congr 1; split <;> split <;> omega
    · rw [if_neg h2, bind_some']; congr 1; split <;> split <;> omega
  · rw [if_neg h1, bind_some', if_pos (by omega), bind_some']; congr 1; split <;> split <;> omega

theorem step_same {l : List Op} {s : State} (hl : ok l) (hs : ok s) (x : Int) : impl_StepState l s x = spec_StepState l s x := by
  unfold impl_StepState spec_StepState
  rw [impl_copyState_is hs, spec_l11Copy_is hs, bind_some', bind_some', impl_canStep_is hl hs, spec_l11Can_is hl hs, bind_some', bind_some']
  simp only [minmax x]

theorem can_step {l : List Op} {s : State} (hl : ok l) (hc : canP l s = true) (x : Int) : Gets (fun t => stateP t = true ∧ s.1 < t.1) (spec_StepState l s x) := by
  have hs : ok s := state_ok (by unfold canP at hc; simp only [Bool.and_eq_true] at hc; exact hc.1.2)
  have c := canP_spec hc
  have hop := c.op
  have r := opP_reg hop
  have e1 := lst_len c.regs; have e2 := lst_len c.vars; have e3 := lst_len c.outs
  have hlen := c.len; have hlt := c.lt; have hpos := c.pos
  rw [len_d] at hlt
  have n1 : N.add .i64 s.1 1 = s.1 + 1 := add_id (by omega) (by omega)
  unfold spec_StepState
  rw [spec_l11Copy_is hs, bind_some', spec_l11Can_is hl hs, bind_some', hc, not_b, Bool.not_true, cond_false]
  refine Gets.ite c.pos (Gets.ite c.lt ?_)
  generalize ho : N.rd l s.1 (0, 0, 0, 0) = o at *
  have fin : ∀ {a b d : List Int}, lst a 4 = true → lst b 3 = true → lst d 4 = true → Gets (fun t : State => stateP t = true ∧ s.1 < t.1) (some (N.add .i64 s.1 1, a, b, d)) := fun h1 h2 h3 => Gets.pure ⟨by
    unfold stateP; simp only [n1, h1, h2, h3, Bool.and_true, decide_eq_true_eq]; omega, by simp only [n1]; omega⟩
  refine Gets.cond (fun h5 => ?_) fun _ => Gets.cond (fun h6 => ?_) fun _ => Gets.cond (fun h7 => ?_) fun _ => Gets.cond (fun h8 => ?_) fun _ => Gets.cond (fun h9 => ?_) fun _ => ?_
  · have q := opP_5 hop (of_decide_eq_true h5)
    have v1 := lst_rd o.2.2.1 c.regs; have v2 := lst_rd o.2.2.2 c.regs
    refine Gets.ite q.1.1 (Gets.ite (by rw [e1]; exact q.1.2) (Gets.ite q.2.1 (Gets.ite (by rw [e1]; exact q.2.2) (Gets.ite r.1 (Gets.ite (by rw [e1]; exact r.2) (Gets.let_ (fin (lst_set c.regs ?_) c.vars c.outs)))))))
    rw [add_id (by omega) (by omega), rem_pos (by omega)]
    omega
  · have q := opP_6 hop (of_decide_eq_true h6)
    exact Gets.ite r.1 (Gets.ite (by rw [e1]; exact r.2) (Gets.ite q.1 (Gets.ite (by rw [e3]; exact q.2) (Gets.let_ (fin c.regs c.vars (lst_set c.outs (lst_rd _ c.regs)))))))
  · have q := opP_7 hop (of_decide_eq_true h7)
    have n2 : N.add .i64 (s.1 + 1) o.2.2.1 = s.1 + 1 + o.2.2.1 := add_id (by omega) (by omega)
    refine Gets.ite r.1 (Gets.ite (by rw [e1]; exact r.2) (Gets.cond (fun _ => Gets.pure ⟨?_, ?_⟩) fun _ => fin c.regs c.vars c.outs))
    · unfold stateP; simp only [n1, n2, c.regs, c.vars, c.outs, Bool.and_true, decide_eq_true_eq]; omega
    · simp only [n1, n2]; omega
  · have q := opP_8 hop (of_decide_eq_true h8)
    exact Gets.ite q.1 (Gets.ite (by rw [e2]; exact q.2) (Gets.ite r.1 (Gets.ite (by rw [e1]; exact r.2) (Gets.let_ (fin (lst_set c.regs (lst_rd _ c.vars)) c.vars c.outs)))))
  · have q := opP_9 hop (of_decide_eq_true h9)
    exact Gets.ite r.1 (Gets.ite (by rw [e1]; exact r.2) (Gets.ite q.1 (Gets.ite (by rw [e2]; exact q.2) (Gets.let_ (fin c.regs (lst_set c.vars (lst_rd _ c.regs)) c.outs)))))
  · rw [minmax x fun r4 => _]
    refine Gets.ite r.1 (Gets.ite (by rw [e1]; exact r.2) (Gets.let_ (fin (lst_set c.regs ?_) c.vars c.outs)))
    unfold N.min N.max; split <;> split <;> omega

end D
end Go.Sh
set_option linter.unusedVariables false
set_option linter.unusedSimpArgs false
set_option synthInstance.maxSize 100000
set_option maxHeartbeats 4000000
namespace Go.Sh
open Go Data
theorem loop_pair {S R : Type} {f g : S → Option (S ⊕ R)} (I : S → Prop) (m : S → Nat) (Q : R → Prop)
    (h : ∀ s, I s → g s = f s ∧ Gets (fun r => match r with | .inl s' => I s' ∧ m s' < m s | .inr r => Q r) (f s)) (s : S) (hs : I s) : loopF g s = loopF f s ∧ Gets Q (loopF f s) := by
  generalize hn : m s = n
  induction n using Nat.strongRecOn generalizing s with
  | ind n ih =>
    obtain ⟨e1, r, e, hr⟩ := h s hs
    cases r with
    | inl s' => rw [loopF_inl e, loopF_inl (e1.trans e)]; exact ih (m s') (by rw [← hn]; exact hr.2) s' hr.1 rfl
    | inr r => exact ⟨by rw [loopF_inr e, loopF_inr (e1.trans e)], r, loopF_inr e, hr⟩

namespace D
theorem spec_l11Zeros_is (n : Nat) (h : n ≤ 100) : spec_l11Zeros (n : Int) = some (List.replicate n 0) := by
  refine loop_upto (r := List.replicate n 0) n (fun k (a : List Int) => (a, (k : Int))) (fun k => List.replicate k 0) (fun k hk => ?_) ?_
  · have h1 : (k : Int) < (n : Int) := by omega
    simp only [ite_if]; simp only [lt_d, cond_dec, h1, if_true, next_id hk (by omega)]
    rw [if_pos (fitsN (by simp; omega) (by omega)), List.replicate_succ']; rfl
  · simp only [lt_d, cond_dec]; rw [if_neg (by omega)]

def startP : State := (0, List.replicate 4 0, List.replicate 3 0, List.replicate 4 0)

theorem spec_StartState_is : spec_StartState = some startP := by
  unfold spec_StartState
  rw [show (4 : Int) = ((4 : Nat) : Int) from rfl, show (3 : Int) = ((3 : Nat) : Int) from rfl, spec_l11Zeros_is 4 (by omega), spec_l11Zeros_is 3 (by omega)]; rfl

theorem impl_StartState_is : impl_StartState = some startP := rfl

theorem start_state : stateP startP = true := by decide

theorem ok_rng {x a b : Int} (h : a ≤ x ∧ x ≤ b) (ha : -1000000000 ≤ a) (hb : b ≤ 1000000000) : ok x := ⟨by omega, by omega⟩

theorem can_of {l : List Op} {s : State} (h1 : scriptP l = true) (h2 : stateP s = true) (h3 : ¬ (l.length : Int) ≤ s.1) : canP l s = true := by
  unfold canP; rw [h1, h2]; simp; omega

theorem state_pos {s : State} (h : stateP s = true) : 0 ≤ s.1 ∧ s.1 ≤ 19 := by
  unfold stateP at h; simp only [Bool.and_eq_true, decide_eq_true_eq] at h; exact h.1

end D
end Go.Sh
set_option linter.unusedVariables false
set_option linter.unusedSimpArgs false
set_option synthInstance.maxSize 100000
set_option maxHeartbeats 4000000
namespace Go.Sh
open Go Data
namespace D
/-! ## Marks of nested lists: they come back -/
theorem laws_markIntS_len {x : List Int} {k : Int} (h0 : 0 ≤ k) (hk : k ≤ 8000000000000000000) (hl : x.length ≤ 1048576) : laws_markIntS x k = some (k + 1 * x.length, markL mkIntS 1 x k) := by
  refine mark_loop (B := 9000000000000000000) (c := 1) (mk := mkIntS) (by omega) (fun k i ys hi h0 h1 hl => ?_) (fun k ys => ?_) h0 (by omega) hl
  · have i0 : (0 : Int) ≤ (i : Int) := by omega
    have i1 : (i : Int) < (ys.length : Int) := by omega
    have a0 : N.add .i64 (k) 1 = k + 1 := add_id (by omega) (by omega)
    have e : k + 1 = k + 1 := by omega
    simp only [ite_if]; (try simp only [let_eq, len_set]); simp only [set_set, rd_set hi, lt_d, len_d, cond_dec, i0, i1, if_true, a0, eq_d, next_id hi (by omega), e]
    rw [set_at]; rfl
  · simp only [lt_d, len_d, cond_dec]; rw [if_neg (by omega)]

end D
end Go.Sh
set_option linter.unusedVariables false
set_option linter.unusedSimpArgs false
set_option synthInstance.maxSize 100000
set_option maxHeartbeats 4000000
namespace Go.Sh
open Go Data
namespace D
end D
end Go.Sh
set_option linter.unusedVariables false
set_option linter.unusedSimpArgs false
set_option synthInstance.maxSize 100000
set_option maxHeartbeats 4000000
namespace Go.Sh
open Go Data
/-! ## Marks of lists whose elements take different numbers of marks -/
def sumW {α : Type} (we : α → Int) : List α → Int
  | [] => 0
  | x :: xs => we x + sumW we xs

theorem sumW_app {α : Type} {we : α → Int} : ∀ (xs ys : List α), sumW we (xs ++ ys) = sumW we xs + sumW we ys
  | [], ys => by simp [sumW]
  | x :: xs, ys => by simp only [List.cons_append, sumW, sumW_app xs ys]; omega

theorem sumW_nonneg {α : Type} {we : α → Int} (hw : ∀ x, 0 ≤ we x) : ∀ (xs : List α), 0 ≤ sumW we xs
  | [] => by simp [sumW]
  | x :: xs => by have := sumW_nonneg hw xs; have := hw x; simp only [sumW]; omega

theorem sumW_le {α : Type} {we : α → Int} {m : Int} : ∀ (xs : List α), (∀ x ∈ xs, we x ≤ m) → sumW we xs ≤ m * xs.length
  | [], _ => by simp [sumW]
  | x :: xs, h => by
    have h1 := sumW_le xs fun y hy => h y (by simp [hy])
    have h2 := h x (by simp)
    simp only [sumW, List.length_cons]
    rw [show ((xs.length + 1 : Nat) : Int) = (xs.length : Int) + 1 from by omega, Int.mul_add, Int.mul_one]; omega

theorem sumW_take {α : Type} {we : α → Int} (hw : ∀ x, 0 ≤ we x) (xs : List α) (i : Nat) (hi : i < xs.length) : 0 ≤ sumW we (xs.take i) ∧ sumW we (xs.take i) + we xs[i] ≤ sumW we xs := by
  refine ⟨sumW_nonneg hw _, ?_⟩
  have : sumW we xs = sumW we (xs.take i) + sumW we (xs.drop i) := by rw [← sumW_app, List.take_append_drop]
  rw [this, List.drop_eq_getElem_cons hi]
  have := sumW_nonneg hw (xs.drop (i + 1))
  simp only [sumW]; omega

def markW {α : Type} (mk : Int → α → α) (we : α → Int) : List α → Int → List α
  | [], _ => []
  | x :: xs, k => mk k x :: markW mk we xs (k + we x)

theorem markW_len {α : Type} {mk : Int → α → α} {we : α → Int} : ∀ (xs : List α) (k : Int), (markW mk we xs k).length = xs.length
  | [], _ => rfl
  | x :: xs, k => by simp [markW, markW_len xs]

theorem markW_app {α : Type} {mk : Int → α → α} {we : α → Int} : ∀ (xs ys : List α) (k : Int), markW mk we (xs ++ ys) k = markW mk we xs k ++ markW mk we ys (k + sumW we xs)
  | [], ys, k => by simp [markW, sumW]
  | x :: xs, ys, k => by
    simp only [List.cons_append, markW, markW_app xs ys, sumW]
    rw [Int.add_assoc]

theorem mark_loopW {α : Type} {step : Int × Int × List α → Option ((Int × Int × List α) ⊕ (Int × List α))} {we : α → Int} {B : Int} {L : Nat} {mk : Int → α → α} {P : α → Prop} (hw : ∀ x, 0 ≤ we x)
    (hstep : ∀ (k : Int) (i : Nat) (ys : List α) (hi : i < ys.length), 0 ≤ k → k + we ys[i] ≤ B → ys.length ≤ L → P ys[i] → step (k, (i : Int), ys) = some (.inl (k + we ys[i], ((i + 1 : Nat) : Int), ys.set i (mk k ys[i]))))
    (hend : ∀ (k : Int) (ys : List α), step (k, (ys.length : Int), ys) = some (.inr (k, ys))) {xs : List α} {k : Int} (h0 : 0 ≤ k) (hB : k + sumW we xs ≤ B) (hl : xs.length ≤ L) (hp : ∀ x ∈ xs, P x) :
    loopF step (k, 0, xs) = some (k + sumW we xs, markW mk we xs k) := by
  have key : ∀ (m i : Nat), i + m = xs.length → loopF step (k + sumW we (xs.take i), (i : Int), markW mk we (xs.take i) k ++ xs.drop i) = some (k + sumW we xs, markW mk we xs k) := by
    intro m
    induction m with
    | zero =>
      intro i hi
      have hi' : i = xs.length := by omega
      subst hi'
      rw [List.take_length, List.drop_length, List.append_nil]
      have := hend (k + sumW we xs) (markW mk we xs k)
      rw [markW_len] at this
      exact loopF_inr this
    | succ m ih =>
      intro i hi
      have hlt : i < xs.length := by omega
      have hge := sumW_take hw xs i hlt
      have hlen : (markW mk we (xs.take i) k).length = i := by rw [markW_len, List.length_take]; omega
      have hlen2 : i < (markW mk we (xs.take i) k ++ xs.drop i).length := by rw [List.length_append, hlen, List.length_drop]; omega
      have e1 : (markW mk we (xs.take i) k ++ xs.drop i)[i]'hlen2 = xs[i] := by
        rw [List.getElem_append_right (by omega)]
        simp only [hlen, Nat.sub_self, List.getElem_drop, Nat.add_zero]
      have e2 : (markW mk we (xs.take i) k ++ xs.drop i).set i (mk (k + sumW we (xs.take i)) xs[i]) = markW mk we (xs.take (i + 1)) k ++ xs.drop (i + 1) := by
        rw [List.take_succ_eq_append_getElem hlt, markW_app, List.set_append_right _ _ (by omega), hlen, Nat.sub_self, List.drop_eq_getElem_cons hlt, List.set_cons_zero, List.append_assoc]; rfl
      have e3 : sumW we (xs.take (i + 1)) = sumW we (xs.take i) + we xs[i] := by
        rw [List.take_succ_eq_append_getElem hlt, sumW_app]; simp [sumW]
      have hs := hstep (k + sumW we (xs.take i)) i (markW mk we (xs.take i) k ++ xs.drop i) hlen2 (by omega) (by rw [e1]; omega) (by rw [List.length_append, hlen, List.length_drop]; omega) (by rw [e1]; exact hp _ (List.getElem_mem hlt))
      rw [loopF_inl hs, e1, e2, Int.add_assoc, ← e3]
      exact ih (i + 1) (by omega)
  have := key xs.length 0 (by omega)
  simpa [markW, sumW] using this

end Go.Sh
set_option linter.unusedVariables false
set_option linter.unusedSimpArgs false
set_option synthInstance.maxSize 100000
set_option maxHeartbeats 4000000
namespace Go.Sh
open Go Data
theorem set_length {α : Type} (xs : List α) (i : Int) (v : α) : (N.set xs i v).length = xs.length := by simp [N.set]

namespace D
/-! ## Marks of captures -/
def wCaptureS (c : Capture) : Int := 8 + c.2.2.2.1.length

def mkCaptureS (k : Int) (c : Capture) : Capture :=
  ((k, k + 1, k + 1 + 1), k + 1 + 1 + 1, (k + 1 + 1 + 1 + 1, markL mkIntS 1 c.2.2.2.1 (k + 1 + 1 + 1 + 1 + 1), (k + 1 + 1 + 1 + 1 + 1 + 1 * c.2.2.2.1.length, k + 1 + 1 + 1 + 1 + 1 + 1 * c.2.2.2.1.length + 1, k + 1 + 1 + 1 + 1 + 1 + 1 * c.2.2.2.1.length + 1 + 1)))

theorem wCaptureS_pos (c : Capture) : 0 ≤ wCaptureS c := by unfold wCaptureS; omega

theorem wCaptureS_le {x : List Capture} (h : ok x) : sumW wCaptureS x ≤ 2000000 * 1048576 := by
  have h1 := sumW_le (we := wCaptureS) (m := 2000000) x fun c hc => by
    have := (h.2 c hc).2.2.2.1.1
    unfold wCaptureS; omega
  have := h.1
  omega

theorem laws_markCaptureS_is {x : List Capture} {k : Int} (h0 : 0 ≤ k) (hk : k ≤ 7000000000000000000) (h : ok x) : laws_markCaptureS x k = some (k + sumW wCaptureS x, markW mkCaptureS wCaptureS x k) := by
  have hs := wCaptureS_le h
  refine mark_loopW (we := wCaptureS) (B := 8000000000000000000) (mk := mkCaptureS) (P := ok) wCaptureS_pos (fun k i ys hi h0 h1 hl hp => ?_) (fun k ys => ?_) h0 (by omega) h.1 h.2
  · have i0 : (0 : Int) ≤ (i : Int) := by omega
    have i1 : (i : Int) < (ys.length : Int) := by omega
    have hb := hp.2.2.2.1.1
    unfold wCaptureS at h1 ⊢
    have a0 : N.add .i64 (k) 1 = k + 1 := add_id (by omega) (by omega)
    have a1 : N.add .i64 (k + 1) 1 = k + 1 + 1 := add_id (by omega) (by omega)
    have a2 : N.add .i64 (k + 1 + 1) 1 = k + 1 + 1 + 1 := add_id (by omega) (by omega)
    have a3 : N.add .i64 (k + 1 + 1 + 1) 1 = k + 1 + 1 + 1 + 1 := add_id (by omega) (by omega)
    have a4 : N.add .i64 (k + 1 + 1 + 1 + 1) 1 = k + 1 + 1 + 1 + 1 + 1 := add_id (by omega) (by omega)
    have m0 := laws_markIntS_len (x := (ys[i]).2.2.2.1) (k := k + 1 + 1 + 1 + 1 + 1) (by omega) (by omega) hb
    generalize hK : k + 1 + 1 + 1 + 1 + 1 + 1 * ((ys[i]).2.2.2.1.length : Int) = K at m0
    have b0 : N.add .i64 K 1 = K + 1 := add_id (by omega) (by omega)
    have b1 : N.add .i64 (K + 1) 1 = K + 1 + 1 := add_id (by omega) (by omega)
    have b2 : N.add .i64 (K + 1 + 1) 1 = K + 1 + 1 + 1 := add_id (by omega) (by omega)
    have e : k + (8 + ((ys[i]).2.2.2.1.length : Int)) = K + 1 + 1 + 1 := by omega
    simp only [ite_if, let_eq, set_length, List.length_set, set_set, rd_set hi, lt_d, len_d, cond_dec, i0, i1, if_true, a0, a1, a2, a3, a4, rd_at ys i hi, m0, bind_some', b0, b1, b2, next_id hi (by omega), e]
    rw [set_at]
    unfold mkCaptureS
    rw [hK]
  · simp only [lt_d, len_d, cond_dec]; rw [if_neg (by omega)]

end D
end Go.Sh
set_option linter.unusedVariables false
set_option linter.unusedSimpArgs false
set_option synthInstance.maxSize 100000
set_option maxHeartbeats 4000000
namespace Go.Sh
open Go Data
namespace D
/-! ## Containers: marks -/
def wContainer (s : List Op) (e : List Entry) (c : List Capture) : Int := 4 * s.length + 5 * e.length + sumW wCaptureS c
theorem laws_markContainer_is {s : List Op} {e : List Entry} {c : List Capture} {r k : Int} (h0 : 0 ≤ k) (hk : k ≤ 6000000000000000000) (hs : ok s) (he : ok e) (hc : ok c) :
    laws_markContainer s e c r k = some (k + wContainer s e c, markL mkOpS 4 s k, markL mkEntryS 5 e (k + 4 * s.length), markW mkCaptureS wCaptureS c (k + 4 * s.length + 5 * e.length)) := by
  have h1 := hs.1; have h2 := he.1
  unfold laws_markContainer
  rw [laws_markOpS_is h0 (by omega) hs, bind_some', laws_markEntryS_is (by omega) (by omega) he, bind_some', laws_markCaptureS_is (by omega) (by omega) hc, bind_some']
  unfold wContainer
  simp only [Int.add_assoc]
theorem wContainer_pos (s : List Op) (e : List Entry) (c : List Capture) : 0 ≤ wContainer s e c := by
  have := sumW_nonneg wCaptureS_pos c
  unfold wContainer; omega
theorem wContainer_le {s : List Op} {e : List Entry} {c : List Capture} (hs : ok s) (he : ok e) (hc : ok c) : wContainer s e c ≤ 2000000 * 1048576 + 9 * 1048576 := by
  have := hs.1; have := he.1; have := wCaptureS_le hc
  unfold wContainer; omega
end D
end Go.Sh
set_option linter.unusedVariables false
set_option linter.unusedSimpArgs false
set_option synthInstance.maxSize 100000
set_option maxHeartbeats 4000000
namespace Go.Sh
open Go Data
namespace D
/-! ## Replays -/
structure PRun (es : List Entry) (s : List State × Int × (Int × Int × Int × List Int × List Int × List Int) × (Int × List Int × List Int × List Int)) : Prop where
  st : stateP s.2.2.2 = true
  n0 : 0 ≤ s.2.1
  n1 : s.2.1 ≤ es.length
  tr : (s.1.length : Int) ≤ s.2.2.2.1 + 1
theorem entriesP_len {es : List Entry} (h : entriesP es = true) : es.length ≤ 16 := by
  unfold entriesP at h; simp only [Bool.and_eq_true, decide_eq_true_eq] at h; exact h.1
theorem played_ok {c n : Int} {s : State} (hc : 0 ≤ c ∧ c ≤ 2) (hn : 0 ≤ n ∧ n ≤ 16) (hs : stateP s = true) : ok ((c, n, s) : Played) := ⟨ok_rng hc (by omega) (by omega), ok_rng hn (by omega) (by omega), state_ok hs⟩
theorem played_is {l : List Op} {es : List Entry} (hl : ok l) (he : ok es) : impl_played l es = spec_l14Run l es ∧ Gets (fun r => ok r.1 ∧ stateP r.1.2.2 = true) (spec_l14Run l es) := by
  have hll := hl.1; have hel := he.1
  unfold impl_played spec_l14Run
  rw [impl_StartState_is, spec_StartState_is, bind_some', bind_some', impl_IsScript_is (by omega), spec_IsScript_is (by omega), bind_some', bind_some', impl_AreEntries_is (by omega), spec_AreEntries_is (by omega), bind_some', bind_some']
  cases hsc : scriptP l with
  | false => exact ⟨rfl, _, rfl, played_ok (by omega) (by omega) start_state, start_state⟩
  | true =>
    cases hep : entriesP es with
    | false => exact ⟨rfl, _, rfl, played_ok (by omega) (by omega) start_state, start_state⟩
    | true =>
      have h16 := entriesP_len hep
      simp only [not_b, Bool.not_true, cond_false]
      refine loop_pair (PRun es) (fun s => 20 - s.2.2.2.1.toNat) (fun r : Played × List State => ok r.1 ∧ stateP r.1.2.2 = true) (fun s hs => ?_) ([startP], 0, (0, 0, 0, [], [], []), startP) ⟨start_state, by simp, by simp, by simp [startP]⟩
      obtain ⟨hst, hn0, hn1, htr⟩ := hs
      have hso := state_ok hst
      have hw := want_in l s.2.2.2
      have e1 : N.ne (wantP l s.2.2.2).1 0 = N.gt (wantP l s.2.2.2).1 0 := by simp only [ne_d, gt_d]; exact decide_eq_decide.2 (by omega)
      have e2 : N.eq s.2.1 (N.len es) = N.ge s.2.1 (N.len es) := by simp only [eq_d, ge_d, len_d]; exact decide_eq_decide.2 (by omega)
      have hp := state_pos hst
      refine ⟨by simp only [impl_IsDone, spec_IsDone, impl_WantOf_is hl hso, spec_WantOf_is hl hso, bind_some', e1, e2, step_same hl hso], ?_⟩
      rw [show spec_IsDone l s.2.2.2 = some (N.ge s.2.2.2.1 (N.len l)) from rfl, bind_some']
      refine Gets.cond (fun hd => ?_) fun hd => ?_
      · have hd' : ¬ (l.length : Int) ≤ s.2.2.2.1 := by simpa [not_b, ge_d, len_d] using hd
        have hc := can_of hsc hst hd'
        have next : ∀ {n' : Int} (v : Int), 0 ≤ n' → n' ≤ es.length → Gets (fun r => ∃ s', r = .inl s' ∧ (PRun es s' ∧ 20 - s'.2.2.2.1.toNat < 20 - s.2.2.2.1.toNat))
            (N.bind (spec_StepState l s.2.2.2 v) fun r6 => N.ite (N.fits s.1 [r6] 80) (some (Sum.inl (β := Played × List State) (N.app s.1 [r6], n', s.2.2.1, r6))) none) := fun {n'} v g0 g1 =>
          Gets.bind (can_step hl hc v) fun t ⟨h2, h3⟩ => by
            have hp2 := state_pos h2
            exact Gets.ite (fitsN (by simp; omega) (by omega)) (Gets.pure ⟨_, rfl, ⟨h2, g0, g1, by simp [N.app]; omega⟩, by simp only; omega⟩)
        rw [spec_WantOf_is hl hso, bind_some']
        refine Gets.cond (fun hw0 => ?_) fun _ => (next 0 hn0 hn1).mono (by rintro _ ⟨s', rfl, h⟩; exact h)
        refine Gets.cond (fun _ => Gets.pure ⟨played_ok (by omega) ⟨hn0, by omega⟩ hst, hst⟩) fun hlt => ?_
        have hlt' : s.2.1 < N.len es := by simpa [ge_d] using hlt
        have hlt2 := hlt'
        rw [len_d] at hlt2
        have hn : N.add .i64 s.2.1 1 = s.2.1 + 1 := add_id (by omega) (by omega)
        refine Gets.ite hn0 (Gets.ite hlt' (Gets.cond (fun _ => Gets.pure ⟨played_ok (by omega) ⟨hn0, by omega⟩ hst, hst⟩) fun _ => Gets.ite hn0 (Gets.ite hlt' (Gets.cond (fun _ => Gets.pure ⟨played_ok (by omega) ⟨hn0, by omega⟩ hst, hst⟩) fun _ => Gets.ite hn0 (Gets.ite hlt' ?_)))))
        rw [hn]
        exact (next (n' := s.2.1 + 1) _ (by omega) (by omega)).mono (by rintro _ ⟨s', rfl, h⟩; exact h)
      · rw [cond_if]
        split
        · exact ⟨_, rfl, played_ok (by omega) ⟨hn0, by omega⟩ hst, hst⟩
        · exact ⟨_, rfl, played_ok (by omega) (by omega) hst, hst⟩
theorem replay_is {l : List Op} {es : List Entry} (hl : ok l) (he : ok es) : impl_Replay l es = spec_Replay l es ∧ Gets (fun r => ok ((r.1, r.2.1, (r.2.2.1, r.2.2.2.1, r.2.2.2.2.1, r.2.2.2.2.2)) : Played)) (spec_Replay l es) := by
  obtain ⟨h1, r, h2, h3, h4⟩ := played_is hl he
  unfold impl_Replay spec_Replay
  rw [h1, h2, bind_some', bind_some', impl_copyState_is (state_ok h4), spec_l11Copy_is (state_ok h4), bind_some']
  exact ⟨rfl, _, rfl, h3⟩
theorem laws_markPlayed_is {c n p : Int} {a b d : List Int} {k : Int} (h0 : 0 ≤ k) (hk : k ≤ 6000000000000000000) (ha : ok a) (hb : ok b) (hd : ok d) :
    laws_markPlayed c n p a b d k = some (k + 1 * a.length + 1 * b.length + 1 * d.length, markL mkIntS 1 a k, markL mkIntS 1 b (k + 1 * a.length), markL mkIntS 1 d (k + 1 * a.length + 1 * b.length)) := by
  have := ha.1; have := hb.1; have := hd.1
  unfold laws_markPlayed laws_markState
  rw [laws_markIntS_is h0 (by omega) ha, bind_some', laws_markIntS_is (by omega) (by omega) hb, bind_some', laws_markIntS_is (by omega) (by omega) hd, bind_some', bind_some']
theorem laws_heldPlayed_is {c n p : Int} {a b d : List Int} {k : Int} (h0 : 0 ≤ k) (hk : k ≤ 6000000000000000000) (ha : ok a) (hb : ok b) (hd : ok d) :
    laws_heldPlayed (c, n, (p, markL mkIntS 1 a k, markL mkIntS 1 b (k + 1 * a.length), markL mkIntS 1 d (k + 1 * a.length + 1 * b.length))) k = some (k + 1 * a.length + 1 * b.length + 1 * d.length) := by
  have := ha.1; have := hb.1; have := hd.1
  unfold laws_heldPlayed laws_heldState
  simp only [laws_heldIntS_is h0 (by omega) ha, bind_some', lt_d, cond_dec]
  rw [if_neg (by omega), laws_heldIntS_is (by omega) (by omega) hb, bind_some', if_neg (by omega), laws_heldIntS_is (by omega) (by omega) hd, bind_some', if_neg (by omega), bind_some', if_neg (by omega)]
theorem FnExactPlayContainer_true (x : Container) (hx : bd x) : laws_FnExactPlayContainer x = some true := by
  unfold laws_FnExactPlayContainer
  obtain ⟨s, e, hs⟩ := laws_szContainer_is x 1048576 hx (by omega) (by omega)
  rw [e, bind_some', lt_d, cond_dec]
  rcases hs with hs | ⟨hk, h0, h1⟩
  · rw [if_pos hs]
  rw [if_neg (by omega)]
  obtain ⟨g1, p, g2, g3⟩ := replay_is hk.1 hk.2.1
  have hi : impl_PlayContainer x = some p := by unfold impl_PlayContainer; rw [g1, g2]; rfl
  have hsp : spec_PlayContainer x = some p := by unfold spec_PlayContainer; rw [g2]; rfl
  have hw := wContainer_le hk.1 hk.2.1 hk.2.2.1; have hp := wContainer_pos x.1 x.2.1 x.2.2.1
  obtain ⟨q1, q2, q3, q4, q5, q6⟩ := g3
  have l4 := q4.1; have l5 := q5.1; have l6 := q6.1
  simp only [laws_toContainer_is _ hk, bind_some', hsp, hi, laws_eqPlayed_is _ _ (show ok ((p.1, p.2.1, (p.2.2.1, p.2.2.2.1, p.2.2.2.2.1, p.2.2.2.2.2)) : Played) from ⟨q1, q2, q3, q4, q5, q6⟩), laws_eqContainer_is _ _ hk, laws_markContainer_is (k := 1) (by omega) (by omega) hk.1 hk.2.1 hk.2.2.1,
    laws_markPlayed_is (k := 1) (by omega) (by omega) q4 q5 q6, laws_heldPlayed_is (k := 1) (by omega) (by omega) q4 q5 q6, ne_d, neB_d, not_d, lt_d, cond_dec]
  have e1 : ¬ (1 + wContainer x.1 x.2.1 x.2.2.1 < 0) := by omega
  have e2 : ¬ (1 + 1 * (p.2.2.2.1.length : Int) + 1 * (p.2.2.2.2.1.length : Int) + 1 * (p.2.2.2.2.2.length : Int) < 0) := by omega
  simp only [e1, e2, decide_true, not_true_eq_false, if_false]
end D
end Go.Sh
set_option linter.unusedVariables false
set_option linter.unusedSimpArgs false
set_option synthInstance.maxSize 100000
set_option maxHeartbeats 4000000
namespace Go.Sh
open Go Data
namespace D
end D
end Go.Sh
set_option linter.unusedVariables false
set_option linter.unusedSimpArgs false
set_option synthInstance.maxSize 100000
set_option maxHeartbeats 4000000
namespace Go.Sh
open Go Data
namespace D
end D
end Go.Sh
