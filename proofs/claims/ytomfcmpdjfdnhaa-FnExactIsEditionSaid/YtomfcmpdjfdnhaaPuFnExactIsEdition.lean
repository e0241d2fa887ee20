/- The native forms of the functions that FnExactIsEdition reaches, and their pure laws: FnExactIsEdition is true for every input of bounded parts. No condition beyond the bounds that every input keeps. -/
import Derived.Test.YtomfcmpdjfdnhaaSh8
set_option linter.unusedVariables false
set_option maxRecDepth 100000
set_option maxHeartbeats 4000000
namespace Go.Sh
open Go
namespace N
def nostr : ByteArray := ByteArray.empty
def lit (l : List UInt8) : ByteArray := ⟨l.toArray⟩
end N
namespace D
abbrev Address : Type := Int × Int × Int
abbrev Resource : Type := Int × (List Int) × Address
abbrev Capture : Type := Address × Int × Resource
abbrev Edition : Type := (List Capture) × Int × Int × (List Address)
noncomputable def spec_l1In (x0 : Int) (x1 : Int) (x2 : Int) : Option (Bool) :=
  N.cond (N.ge x0 x1)
    (some (N.le x0 x2))
    (some false)

noncomputable def impl_InRange (x0 : Int) (x1 : Int) (x2 : Int) : Option (Bool) :=
  N.cond (N.le x1 x0)
    (some (N.le x0 x2))
    (some false)

noncomputable def laws_toIntS (x0 : List Int) : Option (List Int) :=
  N.ite (0 ≤ N.len x0)
    (
      N.ite (N.room (N.len x0) 8)
        (
          loopF (fun (s1 : Int × List Int) =>
              N.cond (N.lt s1.1 (N.len x0))
                (
                  N.ite (0 ≤ s1.1)
                    (
                      N.ite (s1.1 < N.len x0)
                        (
                          N.ite (0 ≤ s1.1)
                            (
                              N.ite (s1.1 < N.len s1.2)
                                (some (.inl (N.add .i64 s1.1 1, N.set s1.2 s1.1 (N.rd x0 s1.1 0))))
                                none)
                            none)
                        none)
                    none)
                (some (.inr s1.2)))
            (0, N.rep (N.len x0) 0))
        none)
    none

noncomputable def laws_eqIntS (x0 : List Int) (x1 : List Int) : Option (Bool) :=
  N.cond (N.ne (N.len x0) (N.len x1))
    (some false)
    (
      loopF (fun (s1 : Int) =>
          N.cond (N.lt s1 (N.len x0))
            (
              N.ite (0 ≤ s1)
                (
                  N.ite (s1 < N.len x0)
                    (
                      N.ite (0 ≤ s1)
                        (
                          N.ite (s1 < N.len x1)
                            (
                              N.cond (N.ne (N.rd x0 s1 0) (N.rd x1 s1 0))
                                (some (.inr false))
                                (some (.inl (N.add .i64 s1 1))))
                            none)
                        none)
                    none)
                none)
            (some (.inr true)))
        0)

noncomputable def laws_szIntS (x0 : List Int) (x1 : Int) : Option (Int) :=
  N.cond (N.lt (N.sub .i64 x1 (N.len x0)) 0)
    (some (-1))
    (some (N.sub .i64 x1 (N.len x0)))

noncomputable def laws_szResource (x0 : Resource) (x1 : Int) : Option (Int) :=
  N.bind (laws_szIntS x0.2.1 x1) fun r1 =>
    N.cond (N.lt r1 0)
      (some (-1))
      (some r1)

noncomputable def laws_szCapture (x0 : Capture) (x1 : Int) : Option (Int) :=
  N.bind (laws_szResource x0.2.2 x1) fun r1 =>
    N.cond (N.lt r1 0)
      (some (-1))
      (some r1)

noncomputable def laws_toAddress (x0 : Address) : Option (Address) :=
  some x0

noncomputable def laws_toResource (x0 : Resource) : Option (Resource) :=
  N.bind (laws_toIntS x0.2.1) fun r1 =>
    N.bind (laws_toAddress x0.2.2) fun r2 =>
      some (x0.1, r1, r2)

noncomputable def laws_toCapture (x0 : Capture) : Option (Capture) :=
  N.bind (laws_toAddress x0.1) fun r1 =>
    N.bind (laws_toResource x0.2.2) fun r2 =>
      some (r1, x0.2.1, r2)

noncomputable def laws_eqAddress (x0 : Address) (x1 : Address) : Option (Bool) :=
  N.cond (N.ne x0.1 x1.1)
    (some false)
    (
      N.cond (N.ne x0.2.1 x1.2.1)
        (some false)
        (
          N.cond (N.ne x0.2.2 x1.2.2)
            (some false)
            (some true)))

noncomputable def laws_eqResource (x0 : Resource) (x1 : Resource) : Option (Bool) :=
  N.cond (N.ne x0.1 x1.1)
    (some false)
    (
      N.bind (laws_eqIntS x0.2.1 x1.2.1) fun r1 =>
        N.cond (N.not r1)
          (some false)
          (
            N.bind (laws_eqAddress x0.2.2 x1.2.2) fun r2 =>
              N.cond (N.not r2)
                (some false)
                (some true)))

noncomputable def laws_eqCapture (x0 : Capture) (x1 : Capture) : Option (Bool) :=
  N.bind (laws_eqAddress x0.1 x1.1) fun r1 =>
    N.cond (N.not r1)
      (some false)
      (
        N.cond (N.ne x0.2.1 x1.2.1)
          (some false)
          (
            N.bind (laws_eqResource x0.2.2 x1.2.2) fun r2 =>
              N.cond (N.not r2)
                (some false)
                (some true)))

noncomputable def spec_EqualInts (x0 : List Int) (x1 : List Int) : Option (Bool) :=
  N.cond (N.ne (N.len x0) (N.len x1))
    (some false)
    (
      loopF (fun (s1 : Int) =>
          N.cond (N.lt s1 (N.len x0))
            (
              N.ite (0 ≤ s1)
                (
                  N.ite (s1 < N.len x0)
                    (
                      N.ite (0 ≤ s1)
                        (
                          N.ite (s1 < N.len x1)
                            (
                              N.cond (N.ne (N.rd x0 s1 0) (N.rd x1 s1 0))
                                (some (.inr false))
                                (some (.inl (N.add .i64 s1 1))))
                            none)
                        none)
                    none)
                none)
            (some (.inr true)))
        0)

noncomputable def slices_Equal_int (x0 : List Int) (x1 : List Int) : Option (Bool) :=
  N.cond (N.ne (N.len x0) (N.len x1))
    (some false)
    (
      loopF (fun (s1 : Int) =>
          N.cond (N.lt s1 (N.len x0))
            (
              N.ite (0 ≤ s1)
                (
                  N.ite (s1 < N.len x0)
                    (
                      N.ite (0 ≤ s1)
                        (
                          N.ite (s1 < N.len x1)
                            (
                              N.cond (N.ne (N.rd x0 s1 0) (N.rd x1 s1 0))
                                (some (.inr false))
                                (some (.inl (N.add .i64 s1 1))))
                            none)
                        none)
                    none)
                none)
            (some (.inr true)))
        0)

noncomputable def spec_l5Bytes (x0 : List Int) : Option (Bool) :=
  loopF (fun (s1 : Int) =>
      N.cond (N.lt s1 (N.len x0))
        (
          N.ite (0 ≤ s1)
            (
              N.ite (s1 < N.len x0)
                (
                  N.bind (spec_l1In (N.rd x0 s1 0) 0 255) fun r1 =>
                    N.cond (N.not r1)
                      (some (.inr false))
                      (some (.inl (N.add .i64 s1 1))))
                none)
            none)
        (some (.inr true)))
    0

noncomputable def impl_allIn (x0 : List Int) (x1 : Int) (x2 : Int) : Option (Bool) :=
  loopF (fun (s1 : Int) =>
      N.cond (N.lt s1 (N.len x0))
        (
          N.ite (0 ≤ s1)
            (
              N.ite (s1 < N.len x0)
                (
                  N.bind (impl_InRange (N.rd x0 s1 0) x1 x2) fun r1 =>
                    N.cond (N.not r1)
                      (some (.inr false))
                      (some (.inl (N.add .i64 s1 1))))
                none)
            none)
        (some (.inr true)))
    0

noncomputable def spec_IsAddress (x0 : Address) : Option (Bool) :=
  N.bind (spec_l1In x0.1 1 9) fun r1 =>
    N.cond r1
      (
        N.bind (spec_l1In x0.2.1 0 99) fun r2 =>
          N.cond r2
            (
              N.bind (spec_l1In x0.2.2 0 99) fun r3 =>
                some r3)
            (some false))
      (some false)

noncomputable def spec_IsResource (x0 : Resource) : Option (Bool) :=
  N.bind (spec_l1In x0.1 1 4) fun r1 =>
    N.cond (N.not r1)
      (some false)
      (
        N.bind (spec_l5Bytes x0.2.1) fun r2 =>
          N.cond (N.not r2)
            (some false)
            (
              N.cond (N.gt (N.len x0.2.1) 6)
                (some false)
                (
                  N.cond (N.eq x0.1 3)
                    (
                      N.bind (spec_IsAddress x0.2.2) fun r3 =>
                        N.cond r3
                          (some (N.eq (N.len x0.2.1) 0))
                          (some false))
                    (
                      N.cond (N.both (N.eq x0.2.2.1 0) (N.both (N.eq x0.2.2.2.1 0) (N.eq x0.2.2.2.2 0)))
                        (
                          N.cond (N.ne x0.1 4)
                            (some true)
                            (some (N.eq (N.len x0.2.1) 0)))
                        (some false)))))

noncomputable def spec_l9Has (x0 : List Address) (x1 : Address) : Option (Bool) :=
  loopF (fun (s1 : Int) =>
      N.cond (N.lt s1 (N.len x0))
        (
          N.ite (0 ≤ s1)
            (
              N.ite (s1 < N.len x0)
                (
                  N.cond (N.both (N.eq ((N.rd x0 s1 (0, 0, 0)).1) x1.1) (N.both (N.eq ((N.rd x0 s1 (0, 0, 0)).2.1) x1.2.1) (N.eq ((N.rd x0 s1 (0, 0, 0)).2.2) x1.2.2)))
                    (some (.inr true))
                    (some (.inl (N.add .i64 s1 1))))
                none)
            none)
        (some (.inr false)))
    0

noncomputable def laws_szCaptureS (x0 : List Capture) (x1 : Int) : Option (Int) :=
  N.cond (N.lt (N.sub .i64 x1 (N.len x0)) 0)
    (some (-1))
    (
      loopF (fun (s1 : Int × Int) =>
          N.cond (N.lt s1.2 (N.len x0))
            (
              N.ite (0 ≤ s1.2)
                (
                  N.ite (s1.2 < N.len x0)
                    (
                      N.bind (laws_szCapture (N.rd x0 s1.2 ((0, 0, 0), 0, (0, [], (0, 0, 0)))) s1.1) fun r1 =>
                        N.cond (N.lt r1 0)
                          (some (.inr (-1)))
                          (some (.inl (r1, N.add .i64 s1.2 1))))
                    none)
                none)
            (some (.inr s1.1)))
        (N.sub .i64 x1 (N.len x0), 0))

noncomputable def laws_szAddressS (x0 : List Address) (x1 : Int) : Option (Int) :=
  N.cond (N.lt (N.sub .i64 x1 (N.len x0)) 0)
    (some (-1))
    (some (N.sub .i64 x1 (N.len x0)))

noncomputable def laws_szEdition (x0 : Edition) (x1 : Int) : Option (Int) :=
  N.bind (laws_szCaptureS x0.1 x1) fun r1 =>
    N.cond (N.lt r1 0)
      (some (-1))
      (
        N.bind (laws_szAddressS x0.2.2.2 r1) fun r2 =>
          N.cond (N.lt r2 0)
            (some (-1))
            (some r2))

noncomputable def laws_toCaptureS (x0 : List Capture) : Option (List Capture) :=
  N.ite (0 ≤ N.len x0)
    (
      N.ite (N.room (N.len x0) 88)
        (
          loopF (fun (s1 : Int × List Capture) =>
              N.cond (N.lt s1.1 (N.len x0))
                (
                  N.ite (0 ≤ s1.1)
                    (
                      N.ite (s1.1 < N.len x0)
                        (
                          N.bind (laws_toCapture (N.rd x0 s1.1 ((0, 0, 0), 0, (0, [], (0, 0, 0))))) fun r1 =>
                            N.ite (0 ≤ s1.1)
                              (
                                N.ite (s1.1 < N.len s1.2)
                                  (some (.inl (N.add .i64 s1.1 1, N.set s1.2 s1.1 r1)))
                                  none)
                              none)
                        none)
                    none)
                (some (.inr s1.2)))
            (0, N.rep (N.len x0) ((0, 0, 0), 0, (0, [], (0, 0, 0)))))
        none)
    none

noncomputable def laws_toAddressS (x0 : List Address) : Option (List Address) :=
  N.ite (0 ≤ N.len x0)
    (
      N.ite (N.room (N.len x0) 24)
        (
          loopF (fun (s1 : Int × List Address) =>
              N.cond (N.lt s1.1 (N.len x0))
                (
                  N.ite (0 ≤ s1.1)
                    (
                      N.ite (s1.1 < N.len x0)
                        (
                          N.bind (laws_toAddress (N.rd x0 s1.1 (0, 0, 0))) fun r1 =>
                            N.ite (0 ≤ s1.1)
                              (
                                N.ite (s1.1 < N.len s1.2)
                                  (some (.inl (N.add .i64 s1.1 1, N.set s1.2 s1.1 r1)))
                                  none)
                              none)
                        none)
                    none)
                (some (.inr s1.2)))
            (0, N.rep (N.len x0) (0, 0, 0)))
        none)
    none

noncomputable def laws_toEdition (x0 : Edition) : Option (Edition) :=
  N.bind (laws_toCaptureS x0.1) fun r1 =>
    N.bind (laws_toAddressS x0.2.2.2) fun r2 =>
      some (r1, x0.2.1, x0.2.2.1, r2)

noncomputable def spec_EqualResources (x0 : Resource) (x1 : Resource) : Option (Bool) :=
  N.cond (N.eq x0.1 x1.1)
    (
      N.cond (N.both (N.eq x0.2.2.1 x1.2.2.1) (N.both (N.eq x0.2.2.2.1 x1.2.2.2.1) (N.eq x0.2.2.2.2 x1.2.2.2.2)))
        (
          N.bind (spec_EqualInts x0.2.1 x1.2.1) fun r1 =>
            some r1)
        (some false))
    (some false)

noncomputable def spec_l15Same (x0 : Capture) (x1 : Capture) : Option (Bool) :=
  N.cond (N.both (N.eq x0.1.1 x1.1.1) (N.both (N.eq x0.1.2.1 x1.1.2.1) (N.eq x0.1.2.2 x1.1.2.2)))
    (
      N.cond (N.eq x0.2.1 x1.2.1)
        (
          N.bind (spec_EqualResources x0.2.2 x1.2.2) fun r1 =>
            some r1)
        (some false))
    (some false)

noncomputable def impl_EqualResources (x0 : Resource) (x1 : Resource) : Option (Bool) :=
  N.cond (N.eq x0.1 x1.1)
    (
      N.cond (N.both (N.eq x0.2.2.1 x1.2.2.1) (N.both (N.eq x0.2.2.2.1 x1.2.2.2.1) (N.eq x0.2.2.2.2 x1.2.2.2.2)))
        (
          N.bind (slices_Equal_int x0.2.1 x1.2.1) fun r1 =>
            some r1)
        (some false))
    (some false)

noncomputable def impl_sameCapture (x0 : Capture) (x1 : Capture) : Option (Bool) :=
  N.cond (N.both (N.eq x0.1.1 x1.1.1) (N.both (N.eq x0.1.2.1 x1.1.2.1) (N.eq x0.1.2.2 x1.1.2.2)))
    (
      N.cond (N.eq x0.2.1 x1.2.1)
        (
          N.bind (impl_EqualResources x0.2.2 x1.2.2) fun r1 =>
            some r1)
        (some false))
    (some false)

noncomputable def laws_eqCaptureS (x0 : List Capture) (x1 : List Capture) : Option (Bool) :=
  N.cond (N.ne (N.len x0) (N.len x1))
    (some false)
    (
      loopF (fun (s1 : Int) =>
          N.cond (N.lt s1 (N.len x0))
            (
              N.ite (0 ≤ s1)
                (
                  N.ite (s1 < N.len x0)
                    (
                      N.ite (0 ≤ s1)
                        (
                          N.ite (s1 < N.len x1)
                            (
                              N.bind (laws_eqCapture (N.rd x0 s1 ((0, 0, 0), 0, (0, [], (0, 0, 0)))) (N.rd x1 s1 ((0, 0, 0), 0, (0, [], (0, 0, 0))))) fun r1 =>
                                N.cond (N.not r1)
                                  (some (.inr false))
                                  (some (.inl (N.add .i64 s1 1))))
                            none)
                        none)
                    none)
                none)
            (some (.inr true)))
        0)

noncomputable def laws_eqAddressS (x0 : List Address) (x1 : List Address) : Option (Bool) :=
  N.cond (N.ne (N.len x0) (N.len x1))
    (some false)
    (
      loopF (fun (s1 : Int) =>
          N.cond (N.lt s1 (N.len x0))
            (
              N.ite (0 ≤ s1)
                (
                  N.ite (s1 < N.len x0)
                    (
                      N.ite (0 ≤ s1)
                        (
                          N.ite (s1 < N.len x1)
                            (
                              N.bind (laws_eqAddress (N.rd x0 s1 (0, 0, 0)) (N.rd x1 s1 (0, 0, 0))) fun r1 =>
                                N.cond (N.not r1)
                                  (some (.inr false))
                                  (some (.inl (N.add .i64 s1 1))))
                            none)
                        none)
                    none)
                none)
            (some (.inr true)))
        0)

noncomputable def laws_eqEdition (x0 : Edition) (x1 : Edition) : Option (Bool) :=
  N.bind (laws_eqCaptureS x0.1 x1.1) fun r1 =>
    N.cond (N.not r1)
      (some false)
      (
        N.cond (N.ne x0.2.1 x1.2.1)
          (some false)
          (
            N.cond (N.ne x0.2.2.1 x1.2.2.1)
              (some false)
              (
                N.bind (laws_eqAddressS x0.2.2.2 x1.2.2.2) fun r2 =>
                  N.cond (N.not r2)
                    (some false)
                    (some true))))

noncomputable def slices_Index_Address (x0 : List Address) (x1 : Address) : Option (Int) :=
  loopF (fun (s1 : Int) =>
      N.cond (N.lt s1 (N.len x0))
        (
          N.ite (0 ≤ s1)
            (
              N.ite (s1 < N.len x0)
                (
                  N.cond (N.both (N.eq x1.1 ((N.rd x0 s1 (0, 0, 0)).1)) (N.both (N.eq x1.2.1 ((N.rd x0 s1 (0, 0, 0)).2.1)) (N.eq x1.2.2 ((N.rd x0 s1 (0, 0, 0)).2.2))))
                    (some (.inr s1))
                    (some (.inl (N.add .i64 s1 1))))
                none)
            none)
        (some (.inr (-1))))
    0

noncomputable def slices_Contains_Address (x0 : List Address) (x1 : Address) : Option (Bool) :=
  N.bind (slices_Index_Address x0 x1) fun r1 =>
    some (N.ge r1 0)

noncomputable def spec_l20In (x0 : List Capture) (x1 : Capture) : Option (Bool) :=
  loopF (fun (s1 : Int) =>
      N.cond (N.lt s1 (N.len x0))
        (
          N.ite (0 ≤ s1)
            (
              N.ite (s1 < N.len x0)
                (
                  N.bind (spec_l15Same (N.rd x0 s1 ((0, 0, 0), 0, (0, [], (0, 0, 0)))) x1) fun r1 =>
                    N.cond r1
                      (some (.inr true))
                      (some (.inl (N.add .i64 s1 1))))
                none)
            none)
        (some (.inr false)))
    0

noncomputable def spec_AreCaptures (x0 : List Capture) : Option (Bool) :=
  loopF (fun (s1 : Int) =>
      N.cond (N.lt s1 (N.len x0))
        (
          N.ite (0 ≤ s1)
            (
              N.ite (s1 < N.len x0)
                (
                  N.bind (spec_IsAddress ((N.rd x0 s1 ((0, 0, 0), 0, (0, [], (0, 0, 0)))).1)) fun r1 =>
                    N.cond (N.not r1)
                      (some (.inr false))
                      (
                        N.ite (0 ≤ s1)
                          (
                            N.ite (s1 < N.len x0)
                              (
                                N.bind (spec_l1In ((N.rd x0 s1 ((0, 0, 0), 0, (0, [], (0, 0, 0)))).2.1) 0 2000) fun r2 =>
                                  N.cond (N.not r2)
                                    (some (.inr false))
                                    (
                                      N.ite (0 ≤ s1)
                                        (
                                          N.ite (s1 < N.len x0)
                                            (
                                              N.bind (spec_IsResource ((N.rd x0 s1 ((0, 0, 0), 0, (0, [], (0, 0, 0)))).2.2)) fun r3 =>
                                                N.cond (N.not r3)
                                                  (some (.inr false))
                                                  (some (.inl (N.add .i64 s1 1))))
                                            none)
                                        none))
                              none)
                          none))
                none)
            none)
        (some (.inr (N.le (N.len x0) 20))))
    0

noncomputable def spec_IsEdition (x0 : Edition) : Option (Bool) :=
  loopF (fun (s1 : Int) =>
      N.cond (N.lt s1 (N.len x0.1))
        (
          N.ite (0 ≤ s1)
            (
              N.ite (s1 < N.len x0.1)
                (
                  N.bind (spec_l1In ((N.rd x0.1 s1 ((0, 0, 0), 0, (0, [], (0, 0, 0)))).2.1) x0.2.1 x0.2.2.1) fun r1 =>
                    N.cond (N.not r1)
                      (some (.inr false))
                      (
                        N.bind (spec_l9Has x0.2.2.2 ((N.rd x0.1 s1 ((0, 0, 0), 0, (0, [], (0, 0, 0)))).1)) fun r2 =>
                          N.cond r2
                            (some (.inr false))
                            (
                              N.ite (0 ≤ s1)
                                (
                                  N.ite (s1 ≤ N.len x0.1)
                                    (
                                      N.bind (spec_l20In (N.cut x0.1 0 s1) (N.rd x0.1 s1 ((0, 0, 0), 0, (0, [], (0, 0, 0))))) fun r3 =>
                                        N.cond r3
                                          (some (.inr false))
                                          (some (.inl (N.add .i64 s1 1))))
                                    none)
                                none)))
                none)
            none)
        (
          Option.map Sum.inr
            (
              N.bind (spec_AreCaptures x0.1) fun r4 =>
                N.cond r4
                  (
                    N.bind (spec_l1In x0.2.1 0 2000) fun r5 =>
                      N.cond r5
                        (
                          N.bind (spec_l1In x0.2.2.1 x0.2.1 2000) fun r6 =>
                            some r6)
                        (some false))
                  (some false))))
    0

noncomputable def impl_IsAddress (x0 : Address) : Option (Bool) :=
  N.bind (impl_InRange x0.1 1 9) fun r1 =>
    N.cond r1
      (
        N.bind (impl_InRange x0.2.1 0 99) fun r2 =>
          N.cond r2
            (
              N.bind (impl_InRange x0.2.2 0 99) fun r3 =>
                some r3)
            (some false))
      (some false)

noncomputable def impl_IsResource (x0 : Resource) : Option (Bool) :=
  N.cond (N.eq x0.1 1)
    (
      N.cond (N.eq x0.1 1)
        (
          N.cond (N.le (N.len x0.2.1) 6)
            (
              N.bind (impl_allIn x0.2.1 0 255) fun r1 =>
                N.cond r1
                  (some (N.both (N.eq x0.2.2.1 0) (N.both (N.eq x0.2.2.2.1 0) (N.eq x0.2.2.2.2 0))))
                  (some false))
            (some false))
        (
          N.cond (N.eq x0.1 3)
            (
              N.cond (N.eq (N.len x0.2.1) 0)
                (
                  N.bind (impl_IsAddress x0.2.2) fun r2 =>
                    some r2)
                (some false))
            (
              N.cond (N.eq x0.1 4)
                (
                  N.cond (N.eq (N.len x0.2.1) 0)
                    (some (N.both (N.eq x0.2.2.1 0) (N.both (N.eq x0.2.2.2.1 0) (N.eq x0.2.2.2.2 0))))
                    (some false))
                (some false))))
    (
      N.cond (N.eq x0.1 2)
        (
          N.cond (N.le (N.len x0.2.1) 6)
            (
              N.bind (impl_allIn x0.2.1 0 255) fun r3 =>
                N.cond r3
                  (some (N.both (N.eq x0.2.2.1 0) (N.both (N.eq x0.2.2.2.1 0) (N.eq x0.2.2.2.2 0))))
                  (some false))
            (some false))
        (
          N.cond (N.eq x0.1 3)
            (
              N.cond (N.eq (N.len x0.2.1) 0)
                (
                  N.bind (impl_IsAddress x0.2.2) fun r4 =>
                    some r4)
                (some false))
            (
              N.cond (N.eq x0.1 4)
                (
                  N.cond (N.eq (N.len x0.2.1) 0)
                    (some (N.both (N.eq x0.2.2.1 0) (N.both (N.eq x0.2.2.2.1 0) (N.eq x0.2.2.2.2 0))))
                    (some false))
                (some false))))

noncomputable def impl_AreCaptures_1 (x0 : Capture) : Option (Bool) :=
  N.bind (impl_IsAddress x0.1) fun r1 =>
    N.cond (N.not r1)
      (some true)
      (
        N.bind (impl_InRange x0.2.1 0 2000) fun r2 =>
          N.cond (N.not r2)
            (some true)
            (
              N.bind (impl_IsResource x0.2.2) fun r3 =>
                some (N.not r3)))

noncomputable def slices_IndexFunc_Capture_impl_AreCaptures_1 (x0 : List Capture) : Option (Int) :=
  loopF (fun (s1 : Int) =>
      N.cond (N.lt s1 (N.len x0))
        (
          N.ite (0 ≤ s1)
            (
              N.ite (s1 < N.len x0)
                (
                  N.bind (impl_AreCaptures_1 (N.rd x0 s1 ((0, 0, 0), 0, (0, [], (0, 0, 0))))) fun r1 =>
                    N.cond r1
                      (some (.inr s1))
                      (some (.inl (N.add .i64 s1 1))))
                none)
            none)
        (some (.inr (-1))))
    0

noncomputable def slices_ContainsFunc_Capture_impl_AreCaptures_1 (x0 : List Capture) : Option (Bool) :=
  N.bind (slices_IndexFunc_Capture_impl_AreCaptures_1 x0) fun r1 =>
    some (N.ge r1 0)

noncomputable def impl_AreCaptures (x0 : List Capture) : Option (Bool) :=
  N.cond (N.le (N.len x0) 20)
    (
      N.bind (slices_ContainsFunc_Capture_impl_AreCaptures_1 x0) fun r1 =>
        some (N.not r1))
    (some false)

noncomputable def impl_hasCapture_1 (x0 : Capture) (x1 : Capture) : Option (Bool) :=
  N.bind (impl_sameCapture x0 x1) fun r1 =>
    some r1

noncomputable def slices_IndexFunc_Capture_impl_hasCapture_1 (x0 : List Capture) (x1 : Capture) : Option (Int) :=
  loopF (fun (s1 : Int) =>
      N.cond (N.lt s1 (N.len x0))
        (
          N.ite (0 ≤ s1)
            (
              N.ite (s1 < N.len x0)
                (
                  N.bind (impl_hasCapture_1 (N.rd x0 s1 ((0, 0, 0), 0, (0, [], (0, 0, 0)))) x1) fun r1 =>
                    N.cond r1
                      (some (.inr s1))
                      (some (.inl (N.add .i64 s1 1))))
                none)
            none)
        (some (.inr (-1))))
    0

noncomputable def slices_ContainsFunc_Capture_impl_hasCapture_1 (x0 : List Capture) (x1 : Capture) : Option (Bool) :=
  N.bind (slices_IndexFunc_Capture_impl_hasCapture_1 x0 x1) fun r1 =>
    some (N.ge r1 0)

noncomputable def impl_hasCapture (x0 : List Capture) (x1 : Capture) : Option (Bool) :=
  N.bind (slices_ContainsFunc_Capture_impl_hasCapture_1 x0 x1) fun r1 =>
    some r1

noncomputable def impl_IsEdition (x0 : Edition) : Option (Bool) :=
  N.bind (impl_AreCaptures x0.1) fun r1 =>
    N.cond (N.not r1)
      (some false)
      (
        N.bind (impl_InRange x0.2.1 0 x0.2.2.1) fun r2 =>
          N.cond (N.not r2)
            (some false)
            (
              N.cond (N.gt x0.2.2.1 2000)
                (some false)
                (
                  loopF (fun (s1 : Int) =>
                      N.cond (N.lt s1 (N.len x0.1))
                        (
                          N.ite (0 ≤ s1)
                            (
                              N.ite (s1 < N.len x0.1)
                                (
                                  N.bind (impl_InRange ((N.rd x0.1 s1 ((0, 0, 0), 0, (0, [], (0, 0, 0)))).2.1) x0.2.1 x0.2.2.1) fun r3 =>
                                    N.cond (N.not r3)
                                      (some (.inr false))
                                      (
                                        N.bind (slices_Contains_Address x0.2.2.2 ((N.rd x0.1 s1 ((0, 0, 0), 0, (0, [], (0, 0, 0)))).1)) fun r4 =>
                                          N.cond r4
                                            (some (.inr false))
                                            (
                                              N.ite (0 ≤ s1)
                                                (
                                                  N.ite (s1 ≤ N.len x0.1)
                                                    (
                                                      N.bind (impl_hasCapture (N.cut x0.1 0 s1) (N.rd x0.1 s1 ((0, 0, 0), 0, (0, [], (0, 0, 0))))) fun r5 =>
                                                        N.cond r5
                                                          (some (.inr false))
                                                          (some (.inl (N.add .i64 s1 1))))
                                                    none)
                                                none)))
                                none)
                            none)
                        (some (.inr true)))
                    0)))

noncomputable def laws_FnExactIsEdition (x0 : Edition) : Option (Bool) :=
  N.bind (laws_szEdition x0 1048576) fun r1 =>
    N.cond (N.lt r1 0)
      (some true)
      (
        N.bind (laws_toEdition x0) fun r2 =>
          N.bind (spec_IsEdition r2) fun r3 =>
            N.bind (laws_toEdition x0) fun r4 =>
              N.bind (impl_IsEdition r4) fun r5 =>
                N.cond (N.neB r5 r3)
                  (some false)
                  (
                    N.bind (laws_toEdition x0) fun r6 =>
                      N.bind (laws_eqEdition r4 r6) fun r7 =>
                        N.cond (N.not r7)
                          (some false)
                          (some true)))

end D
end Go.Sh
set_option linter.unusedVariables false
set_option linter.unusedSimpArgs false
namespace Go.Sh
open Go
/-! ## Loops -/
theorem loopN_det {S R : Type} {step : S → Option (S ⊕ R)} : ∀ {n m : Nat} {s : S} {a b : R}, loopN step n s = some a → loopN step m s = some b → a = b
  | 0, _, _, _, _, h, _ => by simp [loopN] at h
  | _ + 1, 0, _, _, _, _, h => by simp [loopN] at h
  | n + 1, m + 1, s, a, b, h1, h2 => by
    simp only [loopN] at h1 h2
    split at h1
    · cases h1
    · rename_i s' hs; rw [hs] at h2; exact loopN_det h1 h2
    · rename_i r hr; rw [hr] at h2; simp at h1 h2; rw [← h1, ← h2]

theorem loopF_of {S R : Type} {step : S → Option (S ⊕ R)} {s : S} {n : Nat} {r : R} (h : loopN step n s = some r) : loopF step s = some r := by
  have hx : ∃ n r, loopN step n s = some r := ⟨n, r, h⟩
  unfold loopF
  rw [dif_pos hx]
  obtain ⟨m, hm⟩ := Classical.choose_spec hx |> fun h => (⟨_, Classical.choose_spec h⟩ : ∃ v, loopN step (Classical.choose hx) s = some v)
  have := Classical.choose_spec (Classical.choose_spec hx)
  rw [loopN_det this h]

theorem loopF_inr {S R : Type} {step : S → Option (S ⊕ R)} {s : S} {r : R} (h : step s = some (.inr r)) : loopF step s = some r :=
  loopF_of (n := 1) (by simp [loopN, h])

theorem loopF_inl {S R : Type} {step : S → Option (S ⊕ R)} {s s' : S} (h : step s = some (.inl s')) : loopF step s = loopF step s' := by
  by_cases hx : ∃ n r, loopN step n s' = some r
  · obtain ⟨n, r, hn⟩ := hx
    rw [loopF_of hn, loopF_of (n := n + 1) (r := r) (by simp [loopN, h, hn])]
  · have hy : ¬ ∃ n r, loopN step n s = some r := by
      rintro ⟨n, r, hn⟩
      cases n with
      | zero => simp [loopN] at hn
      | succ n => simp only [loopN, h] at hn; exact hx ⟨n, r, hn⟩
    unfold loopF
    rw [dif_neg hx, dif_neg hy]

/-! ## Words -/
section
variable {R α β : Type}
@[simp] theorem bind_some' (x : β) (f : β → Option R) : N.bind (some x) f = f x := rfl
@[simp] theorem cond_true (x y : Option R) : N.cond true x y = x := rfl
@[simp] theorem cond_false (x y : Option R) : N.cond false x y = y := rfl
theorem cond_if (b : Bool) (x y : Option R) : N.cond b x y = if b = true then x else y := rfl
theorem cond_dec (p : Prop) [Decidable p] (x y : Option R) : N.cond (decide p) x y = if p then x else y := by unfold N.cond; by_cases h : p <;> simp [h]
theorem ite_if (c : Prop) [Decidable c] (x y : Option R) : N.ite c x y = if c then x else y := rfl
theorem nite_pos {c : Prop} [Decidable c] (h : c) (x y : Option R) : N.ite c x y = x := if_pos h
theorem lt_d (a b : Int) : N.lt a b = decide (a < b) := rfl
theorem le_d (a b : Int) : N.le a b = decide (a ≤ b) := rfl
theorem gt_d (a b : Int) : N.gt a b = decide (b < a) := rfl
theorem ge_d (a b : Int) : N.ge a b = decide (b ≤ a) := rfl
theorem eq_d (a b : Int) : N.eq a b = decide (a = b) := rfl
theorem ne_d (a b : Int) : N.ne a b = decide (¬ a = b) := by
  unfold N.ne; by_cases h : a = b <;> simp [h]
theorem len_d (xs : List α) : N.len xs = (xs.length : Int) := by simp [N.len]
theorem rd_at (xs : List α) (k : Nat) (hk : k < xs.length) (d : α) : N.rd xs (k : Int) d = xs[k] := by
  simp [N.rd, List.getD, hk]
theorem wrap_id {n : Int} (h1 : -9223372036854775808 ≤ n) (h2 : n < 9223372036854775808) : IntKind.i64.wrap n = n := by
  have e1 : ((2 : Int) ^ IntKind.i64.bits) = 18446744073709551616 := by decide
  have e2 : ((2 : Int) ^ (IntKind.i64.bits - 1)) = 9223372036854775808 := by decide
  have e3 : IntKind.i64.signed = true := rfl
  unfold IntKind.wrap
  rw [e1, e2, e3]
  simp only [Bool.true_and, decide_eq_true_eq]
  split <;> omega
theorem add_id {a b : Int} (h1 : -9223372036854775808 ≤ a + b) (h2 : a + b < 9223372036854775808) : N.add .i64 a b = a + b := wrap_id h1 h2
theorem sub_id {a b : Int} (h1 : -9223372036854775808 ≤ a - b) (h2 : a - b < 9223372036854775808) : N.sub .i64 a b = a - b := wrap_id h1 h2
theorem next_id {k n : Nat} (hk : k < n) (hn : (n : Int) < 9223372036854775808) : N.add .i64 (k : Int) 1 = ((k + 1 : Nat) : Int) := by
  rw [add_id (by omega) (by omega)]; omega
end
end Go.Sh
set_option linter.unusedVariables false
set_option linter.unusedSimpArgs false
namespace Go.Sh
open Go
/-! ## Bounds of data -/
class Data (α : Type) where
  bd : α → Prop
  ok : α → Prop
  le : ∀ x, ok x → bd x
class Flat (α : Type) [Data α] where
  fl : ∀ x : α, Data.bd x → Data.ok x
open Data
instance : Data Int := ⟨fun x => -9223372036854775808 ≤ x ∧ x < 9223372036854775808, fun x => -9223372036854775808 ≤ x ∧ x < 9223372036854775808, fun _ h => h⟩
instance : Data Bool := ⟨fun _ => True, fun _ => True, fun _ h => h⟩
instance : Data ByteArray := ⟨fun s => s.size ≤ 4611686018427387904, fun s => s.size ≤ 4611686018427387904, fun _ h => h⟩
instance {α β : Type} [Data α] [Data β] : Data (α × β) := ⟨fun x => bd x.1 ∧ bd x.2, fun x => ok x.1 ∧ ok x.2, fun x h => ⟨le _ h.1, le _ h.2⟩⟩
instance {α : Type} [Data α] : Data (List α) := ⟨fun xs => xs.length ≤ 4611686018427387904 ∧ ∀ x ∈ xs, bd x, fun xs => xs.length ≤ 1048576 ∧ ∀ x ∈ xs, ok x, fun xs h => ⟨by omega, fun x hx => le x (h.2 x hx)⟩⟩
instance : Flat Int := ⟨fun _ h => h⟩
instance : Flat Bool := ⟨fun _ h => h⟩
instance : Flat ByteArray := ⟨fun _ h => h⟩
instance {α β : Type} [Data α] [Data β] [Flat α] [Flat β] : Flat (α × β) := ⟨fun x h => ⟨Flat.fl _ h.1, Flat.fl _ h.2⟩⟩

section
variable {α : Type} [Data α]
theorem Data.ok.at {xs : List α} (h : ok xs) {k : Nat} (hk : k < xs.length) : ok xs[k] := h.2 _ (List.getElem_mem hk)
theorem Data.bd.at {xs : List α} (h : bd xs) {k : Nat} (hk : k < xs.length) : bd xs[k] := h.2 _ (List.getElem_mem hk)
theorem Data.ok.sub {xs ys : List α} (h : ok xs) (hs : ys.Sublist xs) : ok ys := ⟨Nat.le_trans hs.length_le h.1, fun x hx => h.2 x (hs.subset hx)⟩
end
/-! ## Words, once more -/
section
variable {R α β : Type}
theorem neB_d (a b : Bool) : N.neB a b = decide (¬ a = b) := by cases a <;> cases b <;> rfl
theorem not_d (p : Prop) [Decidable p] : N.not (decide p) = decide (¬ p) := by unfold N.not; by_cases h : p <;> simp [h]
theorem both_d (p q : Prop) [Decidable p] [Decidable q] : N.both (decide p) (decide q) = decide (p ∧ q) := by unfold N.both; by_cases h : p <;> by_cases h' : q <;> simp [h, h']
theorem not_b (b : Bool) : N.not b = !b := rfl
theorem cond_not (b : Bool) (x y : Option R) : N.cond (N.not b) x y = N.cond b y x := by cases b <;> rfl

/-! ## Copies -/
theorem set_grow {xs ys : List α} {k : Nat} (hk : k < xs.length) (hl : ys.length = xs.length) (h : ys.take k = xs.take k) : (ys.set k xs[k]).take (k + 1) = xs.take (k + 1) := by
  apply List.ext_getElem
  · simp [hl]
  · intro i h1 h2
    simp only [List.length_take, List.length_set] at h1 h2
    simp only [List.getElem_take, List.getElem_set]
    split
    · rename_i e; subst e; rfl
    · have hi : i < k := by omega
      have := congrArg (fun l => l[i]?) h
      simp [List.getElem?_take, hi] at this
      rw [List.getElem?_eq_getElem (by omega), List.getElem?_eq_getElem (by omega)] at this
      simpa using this

/-- an element of a list that is copied -/
def toStep (xs : List α) (d : α) (f : α → Option α) (s1 : Int × List α) : Option ((Int × List α) ⊕ List α) :=
  N.cond (N.lt s1.1 (N.len xs)) (N.ite (0 ≤ s1.1) (N.ite (s1.1 < N.len xs) (N.bind (f (N.rd xs s1.1 d)) fun r1 => N.ite (0 ≤ s1.1) (N.ite (s1.1 < N.len s1.2) (some (.inl (N.add .i64 s1.1 1, N.set s1.2 s1.1 r1))) none) none) none) none) (some (.inr s1.2))

theorem toLoop {xs : List α} {d : α} {f : α → Option α} (hf : ∀ x ∈ xs, f x = some x) (hs : xs.length ≤ 1048576) : loopF (toStep xs d f) (0, N.rep (N.len xs) d) = some xs := by
  have key : ∀ (m k : Nat) (ys : List α), k + m = xs.length → ys.length = xs.length → ys.take k = xs.take k → loopF (toStep xs d f) ((k : Int), ys) = some xs := by
    intro m
    induction m with
    | zero =>
      intro k ys hk hl ht
      refine loopF_inr ?_
      have : ys = xs := by
        rw [show k = xs.length by omega] at ht
        rw [List.take_length, ← hl, List.take_length] at ht
        exact ht
      subst this
      simp only [toStep, lt_d, len_d, cond_dec]
      rw [if_neg (by omega)]
    | succ m ih =>
      intro k ys hk hl ht
      have hlt : k < xs.length := by omega
      rw [loopF_inl (s' := (((k + 1 : Nat) : Int), ys.set k xs[k])) ?_]
      · exact ih (k + 1) _ (by omega) (by simp [hl]) (set_grow hlt hl ht)
      · simp only [toStep, ite_if]; simp only [lt_d, len_d, cond_dec]
        rw [if_pos (by omega), if_pos (by omega), if_pos (by omega), rd_at xs k hlt, hf _ (List.getElem_mem hlt), bind_some', if_pos (by omega), if_pos (by omega), next_id hlt (by omega)]
        rfl
  have := key xs.length 0 (N.rep (N.len xs) d) (by omega) (by simp [N.rep, N.len]) (by simp)
  simpa using this

theorem toS_is {xs : List α} {bytes : Nat} {d : α} {f : α → Option α} (hb : bytes ≤ 10000) (hf : ∀ x ∈ xs, f x = some x) (hs : xs.length ≤ 1048576) :
    N.ite (0 ≤ N.len xs) (N.ite (N.room (N.len xs) bytes) (loopF (toStep xs d f) (0, N.rep (N.len xs) d)) none) none = some xs := by
  rw [nite_pos (by simp [N.len]), nite_pos, toLoop hf hs]
  unfold N.room N.len
  have : (xs.length : Int) * bytes ≤ 1048576 * 10000 := Int.mul_le_mul (by omega) (by omega) (by omega) (by omega)
  omega

/-! ## Comparing -/
def eqStep (xs ys : List α) (d : α) (f : α → α → Option Bool) (s1 : Int) : Option (Int ⊕ Bool) :=
  N.cond (N.lt s1 (N.len xs)) (N.ite (0 ≤ s1) (N.ite (s1 < N.len xs) (N.ite (0 ≤ s1) (N.ite (s1 < N.len ys) (N.bind (f (N.rd xs s1 d) (N.rd ys s1 d)) fun r1 => N.cond (N.not r1) (some (.inr false)) (some (.inl (N.add .i64 s1 1)))) none) none) none) none) (some (.inr true))

theorem eqLoop [DecidableEq α] {xs ys : List α} {d : α} {f : α → α → Option Bool} {r : α → α → Bool} (hf : ∀ x ∈ xs, ∀ y ∈ ys, f x y = some (r x y)) (hs : xs.length ≤ 4611686018427387904) (hl : xs.length = ys.length) :
    loopF (eqStep xs ys d f) 0 = some ((List.zip xs ys).all fun p => r p.1 p.2) := by
  have key : ∀ (m k : Nat), k + m = xs.length → loopF (eqStep xs ys d f) (k : Int) = some ((List.zip (xs.drop k) (ys.drop k)).all fun p => r p.1 p.2) := by
    intro m
    induction m with
    | zero =>
      intro k hk
      rw [loopF_inr (r := true) ?_]
      · rw [List.drop_eq_nil_of_le (by omega)]; simp
      · simp only [eqStep, lt_d, len_d, cond_dec]; rw [if_neg (by omega)]
    | succ m ih =>
      intro k hk
      have hlt : k < xs.length := by omega
      have hlt' : k < ys.length := by omega
      rw [List.drop_eq_getElem_cons hlt, List.drop_eq_getElem_cons hlt']
      have hst : eqStep xs ys d f (k : Int) = N.cond (N.not (r xs[k] ys[k])) (some (.inr false)) (some (.inl ((k + 1 : Nat) : Int))) := by
        simp only [eqStep, ite_if]; simp only [lt_d, len_d, cond_dec]
        rw [if_pos (by omega), if_pos (by omega), if_pos (by omega), if_pos (by omega), if_pos (by omega), rd_at xs k hlt, rd_at ys k hlt', hf _ (List.getElem_mem hlt) _ (List.getElem_mem hlt'), bind_some', next_id hlt (by omega)]
      cases hr : r xs[k] ys[k] with
      | true => rw [loopF_inl (s' := ((k + 1 : Nat) : Int)) (by rw [hst, hr]; rfl), ih (k + 1) (by omega)]; simp only [List.zip_cons_cons, List.all_cons, hr, Bool.true_and]
      | false => rw [loopF_inr (r := false) (by rw [hst, hr]; rfl)]; simp only [List.zip_cons_cons, List.all_cons, hr, Bool.false_and]
  simpa using key xs.length 0 (by omega)

theorem zip_all_eq [DecidableEq α] : ∀ {xs ys : List α}, xs.length = ys.length → ((List.zip xs ys).all fun p => decide (p.1 = p.2)) = decide (xs = ys)
  | [], [], _ => by simp
  | x :: xs, y :: ys, h => by
    simp only [List.zip_cons_cons, List.all_cons, zip_all_eq (xs := xs) (ys := ys) (by simpa using h)]
    by_cases h1 : x = y <;> by_cases h2 : xs = ys <;> simp [h1, h2]
  | [], _ :: _, h => by simp at h
  | _ :: _, [], h => by simp at h

theorem eqS_is [DecidableEq α] {xs ys : List α} {d : α} {f : α → α → Option Bool} (hf : ∀ x ∈ xs, ∀ y, f x y = some (decide (x = y))) (hs : xs.length ≤ 4611686018427387904) :
    N.cond (N.ne (N.len xs) (N.len ys)) (some false) (loopF (eqStep xs ys d f) 0) = some (decide (xs = ys)) := by
  simp only [ne_d, len_d, cond_dec]
  split
  · rename_i h
    have : ¬ xs = ys := fun e => h (by rw [e])
    simp [this]
  · rename_i h
    have hl : xs.length = ys.length := by omega
    rw [eqLoop (r := fun x y => decide (x = y)) (fun x hx y _ => hf x hx y) hs hl, zip_all_eq hl]

/-! ## Sizes -/
def SzOk [Data α] (f : α → Int → Option Int) : Prop := ∀ x left, bd x → 0 ≤ left → left ≤ 1048576 → ∃ r, f x left = some r ∧ (r < 0 ∨ (ok x ∧ 0 ≤ r ∧ r ≤ left))

theorem szFlat_is [Data α] [Flat α] : SzOk (fun (xs : List α) (left : Int) => N.cond (N.lt (N.sub .i64 left (N.len xs)) 0) (some (-1)) (some (N.sub .i64 left (N.len xs)))) := by
  intro xs left hb h0 h1
  have h2 := hb.1
  simp only [len_d, lt_d, cond_dec, sub_id (a := left) (b := (xs.length : Int)) (by omega) (by omega)]
  split
  · exact ⟨-1, rfl, .inl (by omega)⟩
  · exact ⟨_, rfl, .inr ⟨⟨by omega, fun x hx => Flat.fl x (hb.2 x hx)⟩, by omega, by omega⟩⟩

def szStep (xs : List α) (d : α) (f : α → Int → Option Int) (s1 : Int × Int) : Option ((Int × Int) ⊕ Int) :=
  N.cond (N.lt s1.2 (N.len xs)) (N.ite (0 ≤ s1.2) (N.ite (s1.2 < N.len xs) (N.bind (f (N.rd xs s1.2 d) s1.1) fun r1 => N.cond (N.lt r1 0) (some (.inr (-1))) (some (.inl (r1, N.add .i64 s1.2 1)))) none) none) (some (.inr s1.1))

theorem szNest_is [Data α] {d : α} {f : α → Int → Option Int} (hf : SzOk f) : SzOk (fun (xs : List α) (left : Int) => N.cond (N.lt (N.sub .i64 left (N.len xs)) 0) (some (-1)) (loopF (szStep xs d f) (N.sub .i64 left (N.len xs), 0))) := by
  intro xs left hb h0 h1
  have h2 := hb.1
  simp only [len_d, lt_d, cond_dec, sub_id (a := left) (b := (xs.length : Int)) (by omega) (by omega)]
  split
  · exact ⟨-1, rfl, .inl (by omega)⟩
  · have key : ∀ (m k : Nat) (l : Int), k + m = xs.length → 0 ≤ l → l ≤ 1048576 → ∃ r, loopF (szStep xs d f) (l, (k : Int)) = some r ∧ (r < 0 ∨ ((∀ x ∈ xs.drop k, ok x) ∧ 0 ≤ r ∧ r ≤ l)) := by
      intro m
      induction m with
      | zero =>
        intro k l hk hl0 hl1
        refine ⟨l, loopF_inr ?_, .inr ⟨fun x hx => ?_, hl0, by omega⟩⟩
        · simp only [szStep, lt_d, len_d, cond_dec]; rw [if_neg (by omega)]
        · rw [List.drop_eq_nil_of_le (by omega)] at hx; cases hx
      | succ m ih =>
        intro k l hk hl0 hl1
        have hlt : k < xs.length := by omega
        obtain ⟨r, e, h⟩ := hf xs[k] l (hb.at hlt) hl0 hl1
        have hst : szStep xs d f (l, (k : Int)) = if r < 0 then some (.inr (-1)) else some (.inl (r, ((k + 1 : Nat) : Int))) := by
          simp only [szStep, ite_if]; simp only [lt_d, len_d, cond_dec]
          rw [if_pos (by omega), if_pos (by omega), if_pos (by omega), rd_at xs k hlt, e, bind_some', next_id hlt (by omega)]
        rcases h with h | ⟨h3, h4, h5⟩
        · exact ⟨-1, loopF_inr (by rw [hst, if_pos h]), .inl (by omega)⟩
        · obtain ⟨r2, e2, h6⟩ := ih (k + 1) r (by omega) h4 (by omega)
          refine ⟨r2, by rw [loopF_inl (by rw [hst, if_neg (by omega)]), e2], h6.imp id fun ⟨h7, h8, h9⟩ => ⟨fun x hx => ?_, h8, by omega⟩⟩
          rw [List.drop_eq_getElem_cons hlt] at hx
          rcases List.mem_cons.1 hx with rfl | hx
          · exact h3
          · exact h7 x hx
    obtain ⟨r, e, h⟩ := key xs.length 0 (left - xs.length) (by omega) (by omega) (by omega)
    refine ⟨r, e, h.imp id fun ⟨h7, h8, h9⟩ => ⟨⟨by omega, by simpa using h7⟩, h8, by omega⟩⟩
end
end Go.Sh
set_option linter.unusedVariables false
set_option linter.unusedSimpArgs false
set_option synthInstance.maxSize 100000
set_option maxHeartbeats 1000000
namespace Go.Sh
open Go Data
namespace D
theorem laws_toIntS_is (x : List Int) (h : ok x) : laws_toIntS x = some x := by
  unfold laws_toIntS
  exact toS_is (d := 0) (f := fun y => some y) (by decide) (fun y hy => rfl) h.1

theorem laws_eqIntS_is (x y : List Int) (h : ok x) : laws_eqIntS x y = some (decide (x = y)) := by
  have e : laws_eqIntS x y = N.cond (N.ne (N.len x) (N.len y)) (some false) (loopF (eqStep x y 0 fun a b => some (decide (a = b))) 0) := by
    unfold laws_eqIntS
    congr 2 <;> (funext s; simp only [eqStep, bind_some', ne_d, not_d, cond_dec]; try simp only [ite_not])
  rw [e]
  exact eqS_is (fun a ha b => rfl) (by have := h.1; omega)

theorem laws_szIntS_is : SzOk laws_szIntS := szFlat_is

theorem laws_szResource_is : SzOk laws_szResource := by
  intro x left hb h0 h1
  unfold laws_szResource
  obtain ⟨r0, e0, g0⟩ := laws_szIntS_is _ left hb.2.1 h0 h1
  rw [e0, bind_some']
  rcases g0 with g0 | ⟨k0, l0, m0⟩
  · exact ⟨-1, by (try simp only [lt_d, cond_dec]); rw [if_pos g0], .inl (by omega)⟩
  (try simp only [lt_d, cond_dec]); rw [if_neg (by omega)]
  exact ⟨_, rfl, .inr ⟨⟨Flat.fl _ hb.1, k0, Flat.fl _ hb.2.2⟩, by omega, by omega⟩⟩

theorem laws_szCapture_is : SzOk laws_szCapture := by
  intro x left hb h0 h1
  unfold laws_szCapture
  obtain ⟨r0, e0, g0⟩ := laws_szResource_is _ left hb.2.2 h0 h1
  rw [e0, bind_some']
  rcases g0 with g0 | ⟨k0, l0, m0⟩
  · exact ⟨-1, by (try simp only [lt_d, cond_dec]); rw [if_pos g0], .inl (by omega)⟩
  (try simp only [lt_d, cond_dec]); rw [if_neg (by omega)]
  exact ⟨_, rfl, .inr ⟨⟨Flat.fl _ hb.1, Flat.fl _ hb.2.1, k0⟩, by omega, by omega⟩⟩

theorem laws_toAddress_is (x : Address) (h : ok x) : laws_toAddress x = some x := rfl

theorem laws_toResource_is (x : Resource) (h : ok x) : laws_toResource x = some x := by
  unfold laws_toResource
  rw [laws_toIntS_is _ h.2.1, bind_some', laws_toAddress_is _ h.2.2, bind_some']

theorem laws_toCapture_is (x : Capture) (h : ok x) : laws_toCapture x = some x := by
  unfold laws_toCapture
  rw [laws_toAddress_is _ h.1, bind_some', laws_toResource_is _ h.2.2, bind_some']

theorem laws_eqAddress_is (x y : Address) (h : ok x) : laws_eqAddress x y = some (decide (x = y)) := by
  obtain ⟨a0, a1, a2⟩ := x; obtain ⟨b0, b1, b2⟩ := y
  unfold laws_eqAddress
  simp only [ne_d, neB_d, not_d, cond_dec, Prod.mk.injEq]
  by_cases e0 : a0 = b0 <;> by_cases e1 : a1 = b1 <;> by_cases e2 : a2 = b2 <;> simp [e0, e1, e2]

theorem laws_eqResource_is (x y : Resource) (h : ok x) : laws_eqResource x y = some (decide (x = y)) := by
  obtain ⟨a0, a1, a2⟩ := x; obtain ⟨b0, b1, b2⟩ := y
  unfold laws_eqResource
  simp only [laws_eqIntS_is _ _ h.2.1, laws_eqAddress_is _ _ h.2.2, bind_some']
  simp only [ne_d, neB_d, not_d, cond_dec, Prod.mk.injEq]
  by_cases e0 : a0 = b0 <;> by_cases e1 : a1 = b1 <;> by_cases e2 : a2 = b2 <;> simp [e0, e1, e2]

theorem laws_eqCapture_is (x y : Capture) (h : ok x) : laws_eqCapture x y = some (decide (x = y)) := by
  obtain ⟨a0, a1, a2⟩ := x; obtain ⟨b0, b1, b2⟩ := y
  unfold laws_eqCapture
  simp only [laws_eqAddress_is _ _ h.1, laws_eqResource_is _ _ h.2.2, bind_some']
  simp only [ne_d, neB_d, not_d, cond_dec, Prod.mk.injEq]
  by_cases e0 : a0 = b0 <;> by_cases e1 : a1 = b1 <;> by_cases e2 : a2 = b2 <;> simp [e0, e1, e2]

theorem laws_szCaptureS_is : SzOk laws_szCaptureS := szNest_is (d := ((0, 0, 0), 0, (0, [], (0, 0, 0)))) laws_szCapture_is

theorem laws_szAddressS_is : SzOk laws_szAddressS := szFlat_is

theorem laws_szEdition_is : SzOk laws_szEdition := by
  intro x left hb h0 h1
  unfold laws_szEdition
  obtain ⟨r0, e0, g0⟩ := laws_szCaptureS_is _ left hb.1 h0 h1
  rw [e0, bind_some']
  rcases g0 with g0 | ⟨k0, l0, m0⟩
  · exact ⟨-1, by (try simp only [lt_d, cond_dec]); rw [if_pos g0], .inl (by omega)⟩
  (try simp only [lt_d, cond_dec]); rw [if_neg (by omega)]
  obtain ⟨r1, e1, g1⟩ := laws_szAddressS_is _ r0 hb.2.2.2 l0 (by omega)
  rw [e1, bind_some']
  rcases g1 with g1 | ⟨k1, l1, m1⟩
  · exact ⟨-1, by (try simp only [lt_d, cond_dec]); rw [if_pos g1], .inl (by omega)⟩
  (try simp only [lt_d, cond_dec]); rw [if_neg (by omega)]
  exact ⟨_, rfl, .inr ⟨⟨k0, Flat.fl _ hb.2.1, Flat.fl _ hb.2.2.1, k1⟩, by omega, by omega⟩⟩

theorem laws_toCaptureS_is (x : List Capture) (h : ok x) : laws_toCaptureS x = some x := by
  unfold laws_toCaptureS
  exact toS_is (d := ((0, 0, 0), 0, (0, [], (0, 0, 0)))) (f := laws_toCapture) (by decide) (fun y hy => laws_toCapture_is y (h.2 y hy)) h.1

theorem laws_toAddressS_is (x : List Address) (h : ok x) : laws_toAddressS x = some x := by
  unfold laws_toAddressS
  exact toS_is (d := (0, 0, 0)) (f := laws_toAddress) (by decide) (fun y hy => laws_toAddress_is y (h.2 y hy)) h.1

theorem laws_toEdition_is (x : Edition) (h : ok x) : laws_toEdition x = some x := by
  unfold laws_toEdition
  rw [laws_toCaptureS_is _ h.1, bind_some', laws_toAddressS_is _ h.2.2.2, bind_some']

theorem laws_eqCaptureS_is (x y : List Capture) (h : ok x) : laws_eqCaptureS x y = some (decide (x = y)) := by
  unfold laws_eqCaptureS
  exact eqS_is (d := ((0, 0, 0), 0, (0, [], (0, 0, 0)))) (f := laws_eqCapture) (fun a ha b => laws_eqCapture_is a b (h.2 a ha)) (by have := h.1; omega)

theorem laws_eqAddressS_is (x y : List Address) (h : ok x) : laws_eqAddressS x y = some (decide (x = y)) := by
  unfold laws_eqAddressS
  exact eqS_is (d := (0, 0, 0)) (f := laws_eqAddress) (fun a ha b => laws_eqAddress_is a b (h.2 a ha)) (by have := h.1; omega)

theorem laws_eqEdition_is (x y : Edition) (h : ok x) : laws_eqEdition x y = some (decide (x = y)) := by
  obtain ⟨a0, a1, a2, a3⟩ := x; obtain ⟨b0, b1, b2, b3⟩ := y
  unfold laws_eqEdition
  simp only [laws_eqCaptureS_is _ _ h.1, laws_eqAddressS_is _ _ h.2.2.2, bind_some']
  simp only [ne_d, neB_d, not_d, cond_dec, Prod.mk.injEq]
  by_cases e0 : a0 = b0 <;> by_cases e1 : a1 = b1 <;> by_cases e2 : a2 = b2 <;> by_cases e3 : a3 = b3 <;> simp [e0, e1, e2, e3]

end D
end Go.Sh
set_option linter.unusedVariables false
set_option linter.unusedSimpArgs false
set_option synthInstance.maxSize 100000
set_option maxHeartbeats 1000000
namespace Go.Sh
open Go Data
namespace D
theorem spec_l1In_is (a b c : Int) : spec_l1In a b c = some (decide (b ≤ a ∧ a ≤ c)) := by
  unfold spec_l1In
  simp only [ge_d, le_d, cond_dec]
  by_cases h1 : b ≤ a <;> by_cases h2 : a ≤ c <;> simp [h1, h2]
theorem impl_InRange_is (a b c : Int) : impl_InRange a b c = some (decide (b ≤ a ∧ a ≤ c)) := by
  unfold impl_InRange
  simp only [ge_d, le_d, cond_dec]
  by_cases h1 : b ≤ a <;> by_cases h2 : a ≤ c <;> simp [h1, h2]
end D
end Go.Sh
set_option linter.unusedVariables false
set_option linter.unusedSimpArgs false
set_option synthInstance.maxSize 100000
set_option maxHeartbeats 1000000
namespace Go.Sh
open Go Data
/-! ## Loops that look for something -/
theorem loop_find {α S R : Type} {step : S → Option (S ⊕ R)} (xs : List α) (emb : Nat → S) (p : α → Option R) (r0 : R)
    (hstep : ∀ (k : Nat) (hk : k < xs.length), step (emb k) = some (match p xs[k] with | some r => .inr r | none => .inl (emb (k + 1))))
    (hend : step (emb xs.length) = some (.inr r0)) : loopF step (emb 0) = some ((xs.findSome? p).getD r0) := by
  have key : ∀ (m k : Nat), k + m = xs.length → loopF step (emb k) = some (((xs.drop k).findSome? p).getD r0) := by
    intro m
    induction m with
    | zero =>
      intro k hk
      have hk' : k = xs.length := by omega
      subst hk'
      rw [loopF_inr hend, List.drop_length]; rfl
    | succ m ih =>
      intro k hk
      have hlt : k < xs.length := by omega
      rw [List.drop_eq_getElem_cons hlt, List.findSome?_cons]
      cases hp : p xs[k] with
      | none => rw [loopF_inl (s' := emb (k + 1)) (by rw [hstep k hlt, hp]), ih (k + 1) (by omega)]
      | some r => rw [loopF_inr (r := r) (by rw [hstep k hlt, hp])]; rfl
  simpa using key xs.length 0 (by omega)

theorem loop_any {α S : Type} {step : S → Option (S ⊕ Bool)} (xs : List α) (emb : Nat → S) (p : α → Bool)
    (hstep : ∀ (k : Nat) (hk : k < xs.length), step (emb k) = some (if p xs[k] = true then .inr true else .inl (emb (k + 1))))
    (hend : step (emb xs.length) = some (.inr false)) : loopF step (emb 0) = some (xs.any p) := by
  rw [loop_find xs emb (fun x => if p x = true then some true else none) false (fun k hk => by rw [hstep k hk]; split <;> rfl) hend]
  congr 1
  induction xs with
  | nil => rfl
  | cons x xs ih =>
    clear hstep hend
    induction (x :: xs) with
    | nil => rfl
    | cons y ys ih2 => rw [List.findSome?_cons, List.any_cons]; cases hp : p y <;> simp [ih2]

theorem loop_all {α S : Type} {step : S → Option (S ⊕ Bool)} (xs : List α) (emb : Nat → S) (p : α → Bool)
    (hstep : ∀ (k : Nat) (hk : k < xs.length), step (emb k) = some (if p xs[k] = true then .inl (emb (k + 1)) else .inr false))
    (hend : step (emb xs.length) = some (.inr true)) : loopF step (emb 0) = some (xs.all p) := by
  rw [loop_find xs emb (fun x => if p x = true then none else some false) true (fun k hk => by rw [hstep k hk]; split <;> rfl) hend]
  congr 1
  clear hstep hend
  induction xs with
  | nil => rfl
  | cons y ys ih2 => rw [List.findSome?_cons, List.all_cons]; cases hp : p y <;> simp [ih2]

/-- looking for a place -/
theorem loop_index {α S : Type} {step : S → Option (S ⊕ Int)} (xs : List α) (emb : Nat → S) (p : α → Bool)
    (hstep : ∀ (k : Nat) (hk : k < xs.length), step (emb k) = some (if p xs[k] = true then .inr (k : Int) else .inl (emb (k + 1))))
    (hend : step (emb xs.length) = some (.inr (-1))) : loopF step (emb 0) = some (if xs.any p = true then (xs.findIdx p : Int) else -1) := by
  have key : ∀ (m k : Nat), k + m = xs.length → loopF step (emb k) = some (if (xs.drop k).any p = true then ((k + (xs.drop k).findIdx p : Nat) : Int) else -1) := by
    intro m
    induction m with
    | zero =>
      intro k hk
      have hk' : k = xs.length := by omega
      subst hk'
      rw [loopF_inr hend, List.drop_length]; rfl
    | succ m ih =>
      intro k hk
      have hlt : k < xs.length := by omega
      rw [List.drop_eq_getElem_cons hlt, List.any_cons, List.findIdx_cons]
      cases hp : p xs[k] with
      | false =>
        rw [loopF_inl (s' := emb (k + 1)) (by rw [hstep k hlt, hp]; rfl), ih (k + 1) (by omega)]
        simp only [Bool.false_or, _root_.cond_false]
        split
        · congr 2; omega
        · rfl
      | true => rw [loopF_inr (r := (k : Int)) (by rw [hstep k hlt, hp]; rfl)]; simp
  simpa using key xs.length 0 (by omega)

namespace D
/-! ## Counts -/
end D
end Go.Sh
set_option linter.unusedVariables false
set_option linter.unusedSimpArgs false
set_option synthInstance.maxSize 100000
set_option maxHeartbeats 1000000
namespace Go.Sh
open Go Data
theorem loop_eq2 {α S : Type} [DecidableEq α] {step : S → Option (S ⊕ Bool)} (xs ys : List α) (emb : Nat → S) (hl : xs.length = ys.length)
    (hstep : ∀ (k : Nat) (hk : k < xs.length) (hk' : k < ys.length), step (emb k) = some (if xs[k] = ys[k] then .inl (emb (k + 1)) else .inr false))
    (hend : step (emb xs.length) = some (.inr true)) : loopF step (emb 0) = some (decide (xs = ys)) := by
  rw [← zip_all_eq hl]
  refine loop_all (xs.zip ys) emb (fun p => decide (p.1 = p.2)) (fun k hk => ?_) ?_
  · have h1 : k < xs.length := by simp at hk; omega
    rw [hstep k h1 (by omega)]
    simp only [List.getElem_zip, decide_eq_true_eq]
  · rw [List.length_zip, ← hl, Nat.min_self]; exact hend

namespace D
theorem addr_eq (x y : Address) : N.both (N.eq x.1 y.1) (N.both (N.eq x.2.1 y.2.1) (N.eq x.2.2 y.2.2)) = decide (x = y) := by
  obtain ⟨a, b, c⟩ := x; obtain ⟨d, e, f⟩ := y
  simp only [eq_d, both_d, Prod.mk.injEq]
theorem eq_len {α : Type} [DecidableEq α] {x y : List α} {K : Option Bool} (h : x.length = y.length → K = some (decide (x = y))) : N.cond (N.ne (N.len x) (N.len y)) (some false) K = some (decide (x = y)) := by
  simp only [ne_d, len_d, cond_dec]
  split
  · rename_i h1
    have : ¬ x = y := fun e => h1 (by rw [e])
    simp [this]
  · exact h (by omega)

theorem slices_Equal_int_is {x y : List Int} (h : x.length ≤ 4611686018427387904) : slices_Equal_int x y = some (decide (x = y)) := by
  refine eq_len fun hl => loop_eq2 x y (fun k => (k : Int)) hl (fun k hk hk' => ?_) ?_
  · have h0 : (0 : Int) ≤ (k : Int) := by omega
    have h1 : (k : Int) < (x.length : Int) := by omega
    have h2 : (k : Int) < (y.length : Int) := by omega
    simp only [ite_if]; simp only [lt_d, len_d, cond_dec, h0, h1, h2, if_true, rd_at x k hk, rd_at y k hk', ne_d, next_id hk (by omega)]
    by_cases e : x[k] = y[k] <;> simp [e]
  · simp only [lt_d, len_d, cond_dec]; rw [if_neg (by omega)]
/-! ### Captures, editions -/
theorem impl_EqualResources_is {x y : Resource} (h : ok x) : impl_EqualResources x y = some (decide (x = y)) := by
  unfold impl_EqualResources
  rw [slices_Equal_int_is (by have := h.2.1.1; omega), bind_some', addr_eq]
  obtain ⟨a, b, c⟩ := x; obtain ⟨a', b', c'⟩ := y
  simp only [eq_d, cond_dec, Prod.mk.injEq]
  by_cases e0 : a = a' <;> by_cases e1 : b = b' <;> by_cases e2 : c = c' <;> simp [e0, e1, e2]
theorem spec_EqualResources_is {x y : Resource} (h : ok x) : spec_EqualResources x y = some (decide (x = y)) := impl_EqualResources_is h
theorem impl_sameCapture_is {x y : Capture} (h : ok x) : impl_sameCapture x y = some (decide (x = y)) := by
  unfold impl_sameCapture
  rw [impl_EqualResources_is h.2.2, bind_some', addr_eq]
  obtain ⟨a, b, c⟩ := x; obtain ⟨a', b', c'⟩ := y
  simp only [eq_d, cond_dec, Prod.mk.injEq]
  by_cases e0 : a = a' <;> by_cases e1 : b = b' <;> by_cases e2 : c = c' <;> simp [e0, e1, e2]
theorem spec_l15Same_is {x y : Capture} (h : ok x) : spec_l15Same x y = some (decide (x = y)) := by
  unfold spec_l15Same
  rw [spec_EqualResources_is h.2.2, bind_some', addr_eq]
  obtain ⟨a, b, c⟩ := x; obtain ⟨a', b', c'⟩ := y
  simp only [eq_d, cond_dec, Prod.mk.injEq]
  by_cases e0 : a = a' <;> by_cases e1 : b = b' <;> by_cases e2 : c = c' <;> simp [e0, e1, e2]
end D
end Go.Sh
set_option linter.unusedVariables false
set_option linter.unusedSimpArgs false
set_option synthInstance.maxSize 100000
set_option maxHeartbeats 1000000
namespace Go.Sh
open Go Data
namespace D
theorem cut_take {α : Type} (l : List α) (k : Nat) : N.cut l 0 (k : Int) = l.take k := by simp [N.cut]
end D
end Go.Sh
set_option linter.unusedVariables false
set_option linter.unusedSimpArgs false
set_option synthInstance.maxSize 100000
set_option maxHeartbeats 1000000
namespace Go.Sh
open Go Data
namespace D
/-! ### Captures outside -/
theorem slices_Contains_Address_is {l : List Address} (h : l.length ≤ 4611686018427387904) (x : Address) : slices_Contains_Address l x = some (decide (x ∈ l)) := by
  unfold slices_Contains_Address
  have e : slices_Index_Address l x = some (if l.any (fun y => decide (x = y)) = true then (l.findIdx (fun y => decide (x = y)) : Int) else -1) := by
    refine loop_index l (fun k => (k : Int)) (fun y => decide (x = y)) (fun k hk => ?_) ?_
    · have h0 : (0 : Int) ≤ (k : Int) := by omega
      have h1 : (k : Int) < (l.length : Int) := by omega
      simp only [ite_if]; simp only [lt_d, len_d, cond_dec, h0, h1, if_true, rd_at l k hk, addr_eq, next_id hk (by omega), decide_eq_true_eq]
      split <;> rfl
    · simp only [lt_d, len_d, cond_dec]; rw [if_neg (by omega)]
  rw [e, bind_some', ge_d]
  congr 1
  by_cases hx : x ∈ l
  · have : l.any (fun y => decide (x = y)) = true := List.any_eq_true.2 ⟨x, hx, by simp⟩
    rw [if_pos this]; simp [hx]
  · have : ¬ l.any (fun y => decide (x = y)) = true := fun h => by
      obtain ⟨y, hy, e⟩ := List.any_eq_true.1 h
      simp only [decide_eq_true_eq] at e; subst e; exact hx hy
    rw [if_neg this]; simp [hx]
theorem spec_l9Has_is {l : List Address} (h : l.length ≤ 4611686018427387904) (x : Address) : spec_l9Has l x = some (decide (x ∈ l)) := by
  have e : l.any (fun y => decide (y = x)) = decide (x ∈ l) := by
    by_cases hx : x ∈ l
    · have : l.any (fun y => decide (y = x)) = true := List.any_eq_true.2 ⟨x, hx, by simp⟩
      simp [this, hx]
    · have : ¬ l.any (fun y => decide (y = x)) = true := fun h => by
        obtain ⟨y, hy, e⟩ := List.any_eq_true.1 h
        simp only [decide_eq_true_eq] at e; subst e; exact hx hy
      simp only [Bool.not_eq_true] at this
      simp [hx, this]
  rw [← e]
  refine loop_any l (fun k => (k : Int)) (fun y => decide (y = x)) (fun k hk => ?_) ?_
  · have h0 : (0 : Int) ≤ (k : Int) := by omega
    have h1 : (k : Int) < (l.length : Int) := by omega
    simp only [ite_if]; simp only [lt_d, len_d, cond_dec, h0, h1, if_true, rd_at l k hk, addr_eq, next_id hk (by omega), decide_eq_true_eq]
    split <;> rfl
  · simp only [lt_d, len_d, cond_dec]; rw [if_neg (by omega)]

end D
end Go.Sh
set_option linter.unusedVariables false
set_option linter.unusedSimpArgs false
set_option synthInstance.maxSize 100000
set_option maxHeartbeats 1000000
namespace Go.Sh
open Go Data
namespace D
end D
end Go.Sh
set_option linter.unusedVariables false
set_option linter.unusedSimpArgs false
set_option synthInstance.maxSize 100000
set_option maxHeartbeats 1000000
namespace Go.Sh
open Go Data
namespace D
end D
end Go.Sh
set_option linter.unusedVariables false
set_option linter.unusedSimpArgs false
set_option synthInstance.maxSize 100000
set_option maxHeartbeats 1000000
namespace Go.Sh
open Go Data
namespace D
/-! ### Ranges of lists -/
theorem impl_allIn_is {l : List Int} (h : l.length ≤ 4611686018427387904) (a b : Int) : impl_allIn l a b = some (l.all fun x => decide (a ≤ x ∧ x ≤ b)) := by
  refine loop_all l (fun k => ((k : Nat) : Int)) (fun x => decide (a ≤ x ∧ x ≤ b)) (fun k hk => ?_) ?_
  · have h0 : (0 : Int) ≤ (k : Int) := by omega
    have h1 : (k : Int) < (l.length : Int) := by omega
    simp only [ite_if]; simp only [lt_d, len_d, cond_dec, h0, h1, if_true, rd_at l k hk, impl_InRange_is, bind_some', not_d, next_id hk (by omega), decide_eq_true_eq]
    by_cases c : a ≤ l[k] ∧ l[k] ≤ b
    · rw [if_neg (by simpa using c), if_pos c]
    · rw [if_pos c, if_neg c]
  · simp only [lt_d, len_d, cond_dec]; rw [if_neg (by omega)]
theorem spec_l5Bytes_is {l : List Int} (h : l.length ≤ 4611686018427387904) : spec_l5Bytes l = some (l.all fun x => decide (0 ≤ x ∧ x ≤ 255)) := by
  refine loop_all l (fun k => ((k : Nat) : Int)) (fun x => decide (0 ≤ x ∧ x ≤ 255)) (fun k hk => ?_) ?_
  · have h0 : (0 : Int) ≤ (k : Int) := by omega
    have h1 : (k : Int) < (l.length : Int) := by omega
    simp only [ite_if]; simp only [lt_d, len_d, cond_dec, h0, h1, if_true, rd_at l k hk, spec_l1In_is, bind_some', not_d, next_id hk (by omega), decide_eq_true_eq]
    by_cases c : 0 ≤ l[k] ∧ l[k] ≤ 255
    · rw [if_neg (by simpa using c), if_pos c]
    · rw [if_pos c, if_neg c]
  · simp only [lt_d, len_d, cond_dec]; rw [if_neg (by omega)]

/-! ### Addresses, resources, captures -/
def addrP (a : Address) : Bool := decide (1 ≤ a.1 ∧ a.1 ≤ 9) && decide (0 ≤ a.2.1 ∧ a.2.1 ≤ 99) && decide (0 ≤ a.2.2 ∧ a.2.2 ≤ 99)
theorem spec_IsAddress_is (a : Address) : spec_IsAddress a = some (addrP a) := by
  unfold spec_IsAddress addrP
  simp only [spec_l1In_is, bind_some']
  cases decide (1 ≤ a.1 ∧ a.1 ≤ 9) <;> cases decide (0 ≤ a.2.1 ∧ a.2.1 ≤ 99) <;> simp
theorem impl_IsAddress_is (a : Address) : impl_IsAddress a = some (addrP a) := by
  unfold impl_IsAddress addrP
  simp only [impl_InRange_is, bind_some']
  cases decide (1 ≤ a.1 ∧ a.1 ≤ 9) <;> cases decide (0 ≤ a.2.1 ∧ a.2.1 ≤ 99) <;> simp
def bytesP (l : List Int) : Bool := l.all fun x => decide (0 ≤ x ∧ x ≤ 255)
def resP (r : Resource) : Bool :=
  if r.1 = 1 ∨ r.1 = 2 then decide (r.2.1.length ≤ 6) && bytesP r.2.1 && decide (r.2.2 = (0, 0, 0))
  else if r.1 = 3 then decide (r.2.1 = []) && addrP r.2.2
  else if r.1 = 4 then decide (r.2.1 = []) && decide (r.2.2 = (0, 0, 0)) else false
theorem zero_addr (a : Address) : N.both (N.eq a.1 0) (N.both (N.eq a.2.1 0) (N.eq a.2.2 0)) = decide (a = (0, 0, 0)) := addr_eq a (0, 0, 0)
theorem len_zero (l : List Int) : N.eq (N.len l) 0 = decide (l = []) := by
  rw [eq_d, len_d]; cases l <;> simp; omega
theorem impl_IsResource_is {r : Resource} (h : r.2.1.length ≤ 4611686018427387904) : impl_IsResource r = some (resP r) := by
  unfold impl_IsResource resP bytesP
  simp only [impl_allIn_is h, impl_IsAddress_is, bind_some', zero_addr, len_zero]
  simp only [eq_d, le_d, len_d, cond_dec]
  by_cases c1 : r.1 = 1
  · simp only [c1, if_true, true_or]
    by_cases c5 : r.2.1.length ≤ 6
    · rw [if_pos (by omega)]
      cases r.2.1.all fun x => decide (0 ≤ x ∧ x ≤ 255) <;> simp [c5]
    · rw [if_neg (by omega)]; simp [c5]
  · rw [if_neg c1]
    by_cases c2 : r.1 = 2
    · simp only [c2, if_true, or_true]
      by_cases c5 : r.2.1.length ≤ 6
      · rw [if_pos (by omega)]
        cases r.2.1.all fun x => decide (0 ≤ x ∧ x ≤ 255) <;> simp [c5]
      · rw [if_neg (by omega)]; simp [c5]
    · simp only [c1, c2, if_false, or_self]
      by_cases c3 : r.1 = 3
      · simp only [c3, if_true]
        by_cases c6 : r.2.1 = [] <;> simp [c6]
      · simp only [c3, if_false]
        by_cases c4 : r.1 = 4
        · simp only [c4, if_true]
          by_cases c6 : r.2.1 = [] <;> simp [c6]
        · simp only [c4, if_false]
theorem spec_IsResource_is {r : Resource} (h : r.2.1.length ≤ 4611686018427387904) : spec_IsResource r = some (resP r) := by
  unfold spec_IsResource resP bytesP
  simp only [spec_l5Bytes_is h, spec_IsAddress_is, spec_l1In_is, bind_some', zero_addr, len_zero]
  simp only [eq_d, ne_d, gt_d, len_d, cond_not, cond_dec]
  have e6 : r.2.1 = [] → (r.2.1.all fun x => decide (0 ≤ x ∧ x ≤ 255)) = true := fun e => by rw [e]; rfl
  have e7 : r.2.1 = [] → r.2.1.length = 0 := fun e => by rw [e]; rfl
  have e8 : r.2.1.length > 6 → ¬ r.2.1 = [] := fun e h => by rw [h] at e; simp at e
  by_cases c0 : 1 ≤ r.1 ∧ r.1 ≤ 4
  · rw [if_pos c0]
    rcases (show r.1 = 1 ∨ r.1 = 2 ∨ r.1 = 3 ∨ r.1 = 4 by omega) with c | c | c | c
    · cases hc : r.2.1.all fun x => decide (0 ≤ x ∧ x ≤ 255)
      · simp [c]
      · by_cases c5 : r.2.1.length ≤ 6
        · rw [cond_true, if_neg (by omega)]; by_cases hz : r.2.2 = (0, 0, 0) <;> simp [c, c5, hz]
        · rw [cond_true, if_pos (by omega)]; simp [c, c5]
    · cases hc : r.2.1.all fun x => decide (0 ≤ x ∧ x ≤ 255)
      · simp [c]
      · by_cases c5 : r.2.1.length ≤ 6
        · rw [cond_true, if_neg (by omega)]; by_cases hz : r.2.2 = (0, 0, 0) <;> simp [c, c5, hz]
        · rw [cond_true, if_pos (by omega)]; simp [c, c5]
    · by_cases c6 : r.2.1 = []
      · rw [e6 c6, cond_true, if_neg (by rw [e7 c6]; omega)]; simp [c, c6]
        cases addrP r.2.2 <;> simp
      · cases hc : r.2.1.all fun x => decide (0 ≤ x ∧ x ≤ 255)
        · simp [c, c6]
        · by_cases c5 : r.2.1.length ≤ 6
          · rw [cond_true, if_neg (by omega)]; simp [c, c6]
            cases addrP r.2.2 <;> simp
          · rw [cond_true, if_pos (by omega)]; simp [c, c6]
    · by_cases c6 : r.2.1 = []
      · rw [e6 c6, cond_true, if_neg (by rw [e7 c6]; omega)]; by_cases hz : r.2.2 = (0, 0, 0) <;> simp [c, c6, hz]
      · cases hc : r.2.1.all fun x => decide (0 ≤ x ∧ x ≤ 255)
        · simp [c, c6]
        · by_cases c5 : r.2.1.length ≤ 6
          · rw [cond_true, if_neg (by omega)]; simp [c, c6]
          · rw [cond_true, if_pos (by omega)]; simp [c, c6]
  · rw [if_neg c0]
    rw [if_neg (by omega), if_neg (by omega), if_neg (by omega)]

def capP (c : Capture) : Bool := addrP c.1 && decide (0 ≤ c.2.1 ∧ c.2.1 ≤ 2000) && resP c.2.2
def areCapturesP (l : List Capture) : Bool := decide (l.length ≤ 20) && l.all capP
theorem impl_AreCaptures_is {l : List Capture} (h : ok l) : impl_AreCaptures l = some (areCapturesP l) := by
  have hl := h.1
  unfold impl_AreCaptures slices_ContainsFunc_Capture_impl_AreCaptures_1 areCapturesP
  have e1 : ∀ c : Capture, ok c → impl_AreCaptures_1 c = some (!capP c) := fun c hc => by
    unfold impl_AreCaptures_1 capP
    simp only [impl_IsAddress_is, impl_InRange_is, impl_IsResource_is (r := c.2.2) (by have := hc.2.2.2.1.1; omega), bind_some', cond_not, not_b]
    cases addrP c.1 <;> cases decide (0 ≤ c.2.1 ∧ c.2.1 ≤ 2000) <;> simp
  have e : slices_IndexFunc_Capture_impl_AreCaptures_1 l = some (if l.any (fun c => !capP c) = true then (l.findIdx (fun c => !capP c) : Int) else -1) := by
    refine loop_index l (fun k => (k : Int)) (fun c => !capP c) (fun k hk => ?_) ?_
    · have h0 : (0 : Int) ≤ (k : Int) := by omega
      have h1 : (k : Int) < (l.length : Int) := by omega
      simp only [ite_if]; simp only [lt_d, len_d, cond_dec, h0, h1, if_true, rd_at l k hk, e1 _ (h.at hk), bind_some', next_id hk (by omega)]
      simp only [cond_if]; split <;> rfl
    · simp only [lt_d, len_d, cond_dec]; rw [if_neg (by omega)]
  rw [e]
  simp only [bind_some', le_d, ge_d, len_d, cond_dec, not_b]
  have e2 : l.all capP = !l.any (fun c => !capP c) := by rw [List.not_any_eq_all_not]; simp
  by_cases h1 : l.length ≤ 20
  · rw [if_pos (by omega), e2]
    cases h2 : l.any fun c => !capP c
    · simp [h1]
    · rw [if_pos rfl]; simp
  · rw [if_neg (by omega)]; simp [h1]
theorem spec_AreCaptures_is {l : List Capture} (h : ok l) : spec_AreCaptures l = some (areCapturesP l) := by
  have hl := h.1
  refine (loop_find l (fun k => ((k : Nat) : Int)) (fun x => if capP x = true then none else some false) (decide (l.length ≤ 20)) (fun k hk => ?_) ?_).trans ?_
  · have h0 : (0 : Int) ≤ (k : Int) := by omega
    have h1 : (k : Int) < (l.length : Int) := by omega
    have hr := (h.at hk).2.2.2.1.1
    simp only [ite_if]; simp only [lt_d, len_d, cond_dec, h0, h1, if_true, rd_at l k hk, spec_IsAddress_is, spec_l1In_is, spec_IsResource_is (r := (l[k]).2.2) (by omega), bind_some', next_id hk (by omega), cond_not]
    unfold capP
    by_cases c2 : 0 ≤ (l[k]).2.1 ∧ (l[k]).2.1 ≤ 2000 <;> cases addrP (l[k]).1 <;> cases resP (l[k]).2.2 <;> simp [c2]
  · simp only [lt_d, len_d, cond_dec]; rw [if_neg (by omega)]
    congr 2
    simp only [le_d]
    by_cases h1 : l.length ≤ 20 <;> simp [h1] <;> omega
  · unfold areCapturesP
    congr 1
    generalize decide (l.length ≤ 20) = q
    clear h hl
    induction l with
    | nil => simp
    | cons y ys ih2 =>
      rw [List.findSome?_cons, List.all_cons]
      cases hb : capP y
      · simp
      · simpa using ih2
end D
end Go.Sh
set_option linter.unusedVariables false
set_option linter.unusedSimpArgs false
set_option synthInstance.maxSize 100000
set_option maxHeartbeats 1000000
namespace Go.Sh
open Go Data
theorem find_all {α : Type} (xs : List α) (p : α → Bool) (q : Bool) : ((xs.findSome? fun x => if p x = true then none else some false).getD q) = (xs.all p && q) := by
  induction xs with
  | nil => simp
  | cons y ys ih =>
    rw [List.findSome?_cons, List.all_cons]
    cases hb : p y
    · simp
    · simpa using ih
namespace D
theorem impl_hasCapture_is {l : List Capture} (h : ok l) (x : Capture) : impl_hasCapture l x = some (decide (x ∈ l)) := by
  have hl := h.1
  have e : slices_IndexFunc_Capture_impl_hasCapture_1 l x = some (if l.any (fun y => decide (y = x)) = true then (l.findIdx (fun y => decide (y = x)) : Int) else -1) := by
    refine loop_index l (fun k => (k : Int)) (fun y => decide (y = x)) (fun k hk => ?_) ?_
    · have h0 : (0 : Int) ≤ (k : Int) := by omega
      have h1 : (k : Int) < (l.length : Int) := by omega
      simp only [ite_if]; simp only [lt_d, len_d, cond_dec, h0, h1, if_true, rd_at l k hk, impl_hasCapture_1, impl_sameCapture_is (h.at hk), bind_some', next_id hk (by omega), decide_eq_true_eq]
      split <;> rfl
    · simp only [lt_d, len_d, cond_dec]; rw [if_neg (by omega)]
  unfold impl_hasCapture slices_ContainsFunc_Capture_impl_hasCapture_1
  rw [e, bind_some', ge_d, bind_some']
  congr 1
  by_cases hx : x ∈ l
  · have : l.any (fun y => decide (y = x)) = true := List.any_eq_true.2 ⟨x, hx, by simp⟩
    rw [if_pos this]; simp [hx]
  · have : ¬ l.any (fun y => decide (y = x)) = true := fun h => by
      obtain ⟨y, hy, e⟩ := List.any_eq_true.1 h
      simp only [decide_eq_true_eq] at e; subst e; exact hx hy
    rw [if_neg this]; simp [hx]
theorem spec_l20In_is {l : List Capture} (h : ok l) (x : Capture) : spec_l20In l x = some (decide (x ∈ l)) := by
  have hl := h.1
  have e : l.any (fun y => decide (y = x)) = decide (x ∈ l) := by
    by_cases hx : x ∈ l
    · have : l.any (fun y => decide (y = x)) = true := List.any_eq_true.2 ⟨x, hx, by simp⟩
      simp [this, hx]
    · have : ¬ l.any (fun y => decide (y = x)) = true := fun h => by
        obtain ⟨y, hy, e⟩ := List.any_eq_true.1 h
        simp only [decide_eq_true_eq] at e; subst e; exact hx hy
      simp only [Bool.not_eq_true] at this
      simp [hx, this]
  rw [← e]
  refine loop_any l (fun k => (k : Int)) (fun y => decide (y = x)) (fun k hk => ?_) ?_
  · have h0 : (0 : Int) ≤ (k : Int) := by omega
    have h1 : (k : Int) < (l.length : Int) := by omega
    simp only [ite_if]; simp only [lt_d, len_d, cond_dec, h0, h1, if_true, rd_at l k hk, spec_l15Same_is (h.at hk), bind_some', next_id hk (by omega), decide_eq_true_eq]
    split <;> rfl
  · simp only [lt_d, len_d, cond_dec]; rw [if_neg (by omega)]

/-- a capture of an edition, behind others -/
def edAt (e : Edition) (k : Nat) : Bool := match e.1[k]? with
  | some c => decide (e.2.1 ≤ c.2.1 ∧ c.2.1 ≤ e.2.2.1) && !decide (c.1 ∈ e.2.2.2) && !decide (c ∈ e.1.take k)
  | none => true
def editionP (e : Edition) : Bool := areCapturesP e.1 && decide (0 ≤ e.2.1 ∧ e.2.1 ≤ e.2.2.1 ∧ e.2.2.1 ≤ 2000) && (List.range e.1.length).all (edAt e)
theorem take_ok {α : Type} [Data α] {l : List α} (h : ok l) (k : Nat) : ok (l.take k) := h.sub (List.take_sublist k l)
theorem impl_IsEdition_is {e : Edition} (h : ok e) : impl_IsEdition e = some (editionP e) := by
  have hl := h.1.1; have hl2 := h.2.2.2.1
  unfold impl_IsEdition editionP
  rw [impl_AreCaptures_is h.1, impl_InRange_is, bind_some', bind_some', cond_not, not_d, gt_d, cond_dec, cond_dec]
  cases areCapturesP e.1 with
  | false => simp
  | true =>
    rw [cond_true]
    by_cases c1 : 0 ≤ e.2.1 ∧ e.2.1 ≤ e.2.2.1
    · rw [if_neg (by simpa using c1)]
      by_cases c2 : e.2.2.1 ≤ 2000
      · rw [if_neg (by omega)]
        have c3 : 0 ≤ e.2.1 ∧ e.2.1 ≤ e.2.2.1 ∧ e.2.2.1 ≤ 2000 := by omega
        simp only [c3, decide_true, Bool.true_and, and_self]
        have hr : (List.range e.1.length).length = e.1.length := List.length_range
        refine loop_all (List.range e.1.length) (fun k => ((k : Nat) : Int)) (edAt e) (fun k hk => ?_) ?_
        · rw [hr] at hk
          have h0 : (0 : Int) ≤ (k : Int) := by omega
          have h1 : (k : Int) < (e.1.length : Int) := by omega
          have h2 : (k : Int) ≤ (e.1.length : Int) := by omega
          rw [List.getElem_range]
          simp only [ite_if]; simp only [lt_d, len_d, cond_dec, h0, h1, h2, if_true, rd_at e.1 k hk, impl_InRange_is, slices_Contains_Address_is (l := e.2.2.2) (by omega), cut_take, impl_hasCapture_is (take_ok h.1 k), bind_some', not_d, next_id hk (by omega)]
          simp only [edAt, List.getElem?_eq_getElem hk]
          by_cases d1 : e.2.1 ≤ (e.1[k]).2.1 ∧ (e.1[k]).2.1 ≤ e.2.2.1
          · rw [if_neg (by simpa using d1)]
            by_cases d2 : (e.1[k]).1 ∈ e.2.2.2 <;> by_cases d3 : e.1[k] ∈ e.1.take k <;> simp [d1, d2, d3]
          · rw [if_pos d1]; simp only [d1, decide_false, Bool.false_and]; rfl
        · rw [hr]; simp only [lt_d, len_d, cond_dec]; rw [if_neg (by omega)]
      · rw [if_pos (by omega)]
        have c3 : ¬ (0 ≤ e.2.1 ∧ e.2.1 ≤ e.2.2.1 ∧ e.2.2.1 ≤ 2000) := by omega
        simp only [c3, decide_false, Bool.and_false, Bool.false_and]
    · rw [if_pos c1]
      have c3 : ¬ (0 ≤ e.2.1 ∧ e.2.1 ≤ e.2.2.1 ∧ e.2.2.1 ≤ 2000) := by omega
      simp only [c3, decide_false, Bool.and_false, Bool.false_and]
theorem spec_IsEdition_is {e : Edition} (h : ok e) : spec_IsEdition e = some (editionP e) := by
  have hl := h.1.1; have hl2 := h.2.2.2.1
  have hr : (List.range e.1.length).length = e.1.length := List.length_range
  refine (loop_find (List.range e.1.length) (fun k => ((k : Nat) : Int)) (fun k => if edAt e k = true then none else some false) (areCapturesP e.1 && decide (0 ≤ e.2.1 ∧ e.2.1 ≤ 2000) && decide (e.2.1 ≤ e.2.2.1 ∧ e.2.2.1 ≤ 2000)) (fun k hk => ?_) ?_).trans ?_
  · rw [hr] at hk
    have h0 : (0 : Int) ≤ (k : Int) := by omega
    have h1 : (k : Int) < (e.1.length : Int) := by omega
    have h2 : (k : Int) ≤ (e.1.length : Int) := by omega
    rw [List.getElem_range]
    simp only [ite_if]; simp only [lt_d, len_d, cond_dec, h0, h1, h2, if_true, rd_at e.1 k hk, spec_l1In_is, spec_l9Has_is (l := e.2.2.2) (by omega), cut_take, spec_l20In_is (take_ok h.1 k), bind_some', not_d, next_id hk (by omega)]
    simp only [edAt, List.getElem?_eq_getElem hk]
    by_cases d1 : e.2.1 ≤ (e.1[k]).2.1 ∧ (e.1[k]).2.1 ≤ e.2.2.1
    · rw [if_neg (by simpa using d1)]
      by_cases d2 : (e.1[k]).1 ∈ e.2.2.2 <;> by_cases d3 : e.1[k] ∈ e.1.take k <;> simp [d1, d2, d3]
    · rw [if_pos d1]; simp only [d1, decide_false, Bool.false_and]; rfl
  · rw [hr]; simp only [lt_d, len_d, cond_dec]; rw [if_neg (by omega)]
    rw [spec_AreCaptures_is h.1, spec_l1In_is, spec_l1In_is]
    simp only [bind_some']
    cases areCapturesP e.1 <;> cases decide (0 ≤ e.2.1 ∧ e.2.1 ≤ 2000) <;> simp
  · rw [find_all]
    unfold editionP
    congr 1
    have : (decide (0 ≤ e.2.1 ∧ e.2.1 ≤ 2000) && decide (e.2.1 ≤ e.2.2.1 ∧ e.2.2.1 ≤ 2000)) = decide (0 ≤ e.2.1 ∧ e.2.1 ≤ e.2.2.1 ∧ e.2.2.1 ≤ 2000) := by
      rw [← Bool.decide_and]; congr 1; apply propext; constructor <;> intro h <;> omega
    rw [Bool.and_assoc, this, Bool.and_comm]
theorem FnExactIsEdition_true (x : Edition) (hx : bd x) : laws_FnExactIsEdition x = some true := by
  unfold laws_FnExactIsEdition
  obtain ⟨s, e, hs⟩ := laws_szEdition_is x 1048576 hx (by omega) (by omega)
  rw [e, bind_some', lt_d, cond_dec]
  rcases hs with hs | ⟨hk, h0, h1⟩
  · rw [if_pos hs]
  · rw [if_neg (by omega)]
    simp only [laws_toEdition_is _ hk, bind_some', spec_IsEdition_is hk, impl_IsEdition_is hk, laws_eqEdition_is _ _ hk, ne_d, neB_d, not_d, cond_dec]
    simp
end D
end Go.Sh
