/- The native forms of the functions that FnEditions reaches, and their pure laws: FnEditions is true for every input of bounded parts. No condition beyond the bounds that every input keeps. -/
import Derived.Test.YthmpjemfgejccaaSh8
set_option linter.unusedVariables false
set_option maxRecDepth 100000
set_option maxHeartbeats 4000000
namespace Go.Sh
open Go
namespace N
def nostr : ByteArray := ByteArray.empty
def lit (l : List UInt8) : ByteArray := ⟨l.toArray⟩
def let_ {α R : Type} (x : α) (f : α → Option R) : Option R := f x
end N
namespace D
abbrev Address : Type := Int × Int × Int
abbrev Resource : Type := Int × (List Int) × Address
abbrev Capture : Type := Address × Int × Resource
abbrev Edition : Type := (List Capture) × Int × Int × (List Address)
abbrev l1Cur : Type := (List Int) × Int × Int
noncomputable def spec_l1In (x0 : Int) (x1 : Int) (x2 : Int) : Option (Bool) :=
  N.cond (N.ge x0 x1)
    (some (N.le x0 x2))
    (some false)

noncomputable def spec_IsAddress (x0 : Address) : Option (Bool) :=
  N.bind (spec_l1In x0.1 1 9) fun r1 =>
    N.cond r1
      (
        N.bind (spec_l1In x0.2.1 0 99) fun r2 =>
          N.cond r2
            (
              N.bind (spec_l1In x0.2.2 0 99) fun r3 =>
                some r3)
            (some false))
      (some false)

noncomputable def impl_InRange (x0 : Int) (x1 : Int) (x2 : Int) : Option (Bool) :=
  N.cond (N.le x1 x0)
    (some (N.le x0 x2))
    (some false)

noncomputable def impl_allIn (x0 : List Int) (x1 : Int) (x2 : Int) : Option (Bool) :=
  loopF (fun (s1 : Int) =>
      N.cond (N.lt s1 (N.len x0))
        (
          N.ite (0 ≤ s1)
            (
              N.ite (s1 < N.len x0)
                (
                  N.bind (impl_InRange (N.rd x0 s1 0) x1 x2) fun r1 =>
                    N.cond (N.not r1)
                      (some (.inr false))
                      (some (.inl (N.add .i64 s1 1))))
                none)
            none)
        (some (.inr true)))
    0

noncomputable def slices_Clone_int (x0 : List Int) : Option (List Int) :=
  N.nilc (N.isE x0)
    (some [])
    (
      N.ite (N.fits [] x0 8)
        (some (N.app [] x0))
        none)

noncomputable def impl_IsAddress (x0 : Address) : Option (Bool) :=
  N.bind (impl_InRange x0.1 1 9) fun r1 =>
    N.cond r1
      (
        N.bind (impl_InRange x0.2.1 0 99) fun r2 =>
          N.cond r2
            (
              N.bind (impl_InRange x0.2.2 0 99) fun r3 =>
                some r3)
            (some false))
      (some false)

noncomputable def spec_l5Copy (x0 : Resource) : Option (Int × (List Int) × Int × Int × Int) :=
  N.ite (N.fits [] x0.2.1 8)
    (some (x0.1, N.app [] x0.2.1, x0.2.2.1, x0.2.2.2.1, x0.2.2.2.2))
    none

noncomputable def spec_l15Copy (x0 : List Capture) : Option (List Capture) :=
  loopF (fun (s1 : List Capture × Int) =>
      N.cond (N.lt s1.2 (N.len x0))
        (
          N.ite (0 ≤ s1.2)
            (
              N.ite (s1.2 < N.len x0)
                (
                  N.ite (0 ≤ s1.2)
                    (
                      N.ite (s1.2 < N.len x0)
                        (
                          N.ite (0 ≤ s1.2)
                            (
                              N.ite (s1.2 < N.len x0)
                                (
                                  N.bind (spec_l5Copy ((N.rd x0 s1.2 ((0, 0, 0), 0, (0, [], (0, 0, 0)))).2.2)) fun r1 =>
                                    N.ite (N.fits s1.1 [((N.rd x0 s1.2 ((0, 0, 0), 0, (0, [], (0, 0, 0)))).1, (N.rd x0 s1.2 ((0, 0, 0), 0, (0, [], (0, 0, 0)))).2.1, (r1.1, r1.2.1, (r1.2.2.1, r1.2.2.2.1, r1.2.2.2.2)))] 88)
                                      (some (.inl (N.app s1.1 [((N.rd x0 s1.2 ((0, 0, 0), 0, (0, [], (0, 0, 0)))).1, (N.rd x0 s1.2 ((0, 0, 0), 0, (0, [], (0, 0, 0)))).2.1, (r1.1, r1.2.1, (r1.2.2.1, r1.2.2.2.1, r1.2.2.2.2)))], N.add .i64 s1.2 1)))
                                      none)
                                none)
                            none)
                        none)
                    none)
                none)
            none)
        (some (.inr s1.1)))
    ([], 0)

noncomputable def impl_copyResource (x0 : Resource) : Option (Int × (List Int) × Int × Int × Int) :=
  N.bind (slices_Clone_int x0.2.1) fun r1 =>
    some (x0.1, r1, x0.2.2.1, x0.2.2.2.1, x0.2.2.2.2)

noncomputable def impl_copyCaptures (x0 : List Capture) : Option (List Capture) :=
  loopF (fun (s1 : List Capture × Int) =>
      N.cond (N.lt s1.2 (N.len x0))
        (
          N.ite (0 ≤ s1.2)
            (
              N.ite (s1.2 < N.len x0)
                (
                  N.bind (impl_copyResource ((N.rd x0 s1.2 ((0, 0, 0), 0, (0, [], (0, 0, 0)))).2.2)) fun r1 =>
                    N.ite (N.fits s1.1 [((N.rd x0 s1.2 ((0, 0, 0), 0, (0, [], (0, 0, 0)))).1, (N.rd x0 s1.2 ((0, 0, 0), 0, (0, [], (0, 0, 0)))).2.1, (r1.1, r1.2.1, (r1.2.2.1, r1.2.2.2.1, r1.2.2.2.2)))] 88)
                      (some (.inl (N.app s1.1 [((N.rd x0 s1.2 ((0, 0, 0), 0, (0, [], (0, 0, 0)))).1, (N.rd x0 s1.2 ((0, 0, 0), 0, (0, [], (0, 0, 0)))).2.1, (r1.1, r1.2.1, (r1.2.2.1, r1.2.2.2.1, r1.2.2.2.2)))], N.add .i64 s1.2 1)))
                      none)
                none)
            none)
        (some (.inr s1.1)))
    ([], 0)

noncomputable def impl_ResourceInts (x0 : Resource) : Option (List Int) :=
  N.ite (N.fits [x0.1, x0.2.2.1, x0.2.2.2.1, x0.2.2.2.2, N.len x0.2.1] x0.2.1 8)
    (some (N.app [x0.1, x0.2.2.1, x0.2.2.2.1, x0.2.2.2.2, N.len x0.2.1] x0.2.1))
    none

noncomputable def impl_CaptureInts (x0 : Capture) : Option (List Int) :=
  N.bind (impl_ResourceInts x0.2.2) fun r1 =>
    N.ite (N.fits [x0.1.1, x0.1.2.1, x0.1.2.2, x0.2.1] r1 8)
      (some (N.app [x0.1.1, x0.1.2.1, x0.1.2.2, x0.2.1] r1))
      none

noncomputable def impl_EditionInts (x0 : Edition) : Option (List Int) :=
  loopF (fun (s1 : List Int × Int) =>
      N.cond (N.lt s1.2 (N.len x0.1))
        (
          N.ite (0 ≤ s1.2)
            (
              N.ite (s1.2 < N.len x0.1)
                (
                  N.bind (impl_CaptureInts (N.rd x0.1 s1.2 ((0, 0, 0), 0, (0, [], (0, 0, 0))))) fun r1 =>
                    N.ite (N.fits s1.1 r1 8)
                      (some (.inl (N.app s1.1 r1, N.add .i64 s1.2 1)))
                      none)
                none)
            none)
        (some (.inr s1.1)))
    ([x0.2.1, x0.2.2.1], 0)

noncomputable def spec_l5Bytes (x0 : List Int) : Option (Bool) :=
  loopF (fun (s1 : Int) =>
      N.cond (N.lt s1 (N.len x0))
        (
          N.ite (0 ≤ s1)
            (
              N.ite (s1 < N.len x0)
                (
                  N.bind (spec_l1In (N.rd x0 s1 0) 0 255) fun r1 =>
                    N.cond (N.not r1)
                      (some (.inr false))
                      (some (.inl (N.add .i64 s1 1))))
                none)
            none)
        (some (.inr true)))
    0

noncomputable def spec_IsResource (x0 : Resource) : Option (Bool) :=
  N.bind (spec_l1In x0.1 1 4) fun r1 =>
    N.cond (N.not r1)
      (some false)
      (
        N.bind (spec_l5Bytes x0.2.1) fun r2 =>
          N.cond (N.not r2)
            (some false)
            (
              N.cond (N.gt (N.len x0.2.1) 6)
                (some false)
                (
                  N.cond (N.eq x0.1 3)
                    (
                      N.bind (spec_IsAddress x0.2.2) fun r3 =>
                        N.cond r3
                          (some (N.eq (N.len x0.2.1) 0))
                          (some false))
                    (
                      N.cond (N.both (N.eq x0.2.2.1 0) (N.both (N.eq x0.2.2.2.1 0) (N.eq x0.2.2.2.2 0)))
                        (
                          N.cond (N.ne x0.1 4)
                            (some true)
                            (some (N.eq (N.len x0.2.1) 0)))
                        (some false)))))

noncomputable def spec_AreCaptures (x0 : List Capture) : Option (Bool) :=
  loopF (fun (s1 : Int) =>
      N.cond (N.lt s1 (N.len x0))
        (
          N.ite (0 ≤ s1)
            (
              N.ite (s1 < N.len x0)
                (
                  N.bind (spec_IsAddress ((N.rd x0 s1 ((0, 0, 0), 0, (0, [], (0, 0, 0)))).1)) fun r1 =>
                    N.cond (N.not r1)
                      (some (.inr false))
                      (
                        N.ite (0 ≤ s1)
                          (
                            N.ite (s1 < N.len x0)
                              (
                                N.bind (spec_l1In ((N.rd x0 s1 ((0, 0, 0), 0, (0, [], (0, 0, 0)))).2.1) 0 2000) fun r2 =>
                                  N.cond (N.not r2)
                                    (some (.inr false))
                                    (
                                      N.ite (0 ≤ s1)
                                        (
                                          N.ite (s1 < N.len x0)
                                            (
                                              N.bind (spec_IsResource ((N.rd x0 s1 ((0, 0, 0), 0, (0, [], (0, 0, 0)))).2.2)) fun r3 =>
                                                N.cond (N.not r3)
                                                  (some (.inr false))
                                                  (some (.inl (N.add .i64 s1 1))))
                                            none)
                                        none))
                              none)
                          none))
                none)
            none)
        (some (.inr (N.le (N.len x0) 20))))
    0

noncomputable def spec_l9Has (x0 : List Address) (x1 : Address) : Option (Bool) :=
  loopF (fun (s1 : Int) =>
      N.cond (N.lt s1 (N.len x0))
        (
          N.ite (0 ≤ s1)
            (
              N.ite (s1 < N.len x0)
                (
                  N.cond (N.both (N.eq ((N.rd x0 s1 (0, 0, 0)).1) x1.1) (N.both (N.eq ((N.rd x0 s1 (0, 0, 0)).2.1) x1.2.1) (N.eq ((N.rd x0 s1 (0, 0, 0)).2.2) x1.2.2)))
                    (some (.inr true))
                    (some (.inl (N.add .i64 s1 1))))
                none)
            none)
        (some (.inr false)))
    0

noncomputable def spec_l23Without (x0 : List Capture) (x1 : List Address) : Option (List Capture) :=
  loopF (fun (s1 : List Capture × Int) =>
      N.cond (N.lt s1.2 (N.len x0))
        (
          N.ite (0 ≤ s1.2)
            (
              N.ite (s1.2 < N.len x0)
                (
                  N.bind (spec_l9Has x1 ((N.rd x0 s1.2 ((0, 0, 0), 0, (0, [], (0, 0, 0)))).1)) fun r1 =>
                    N.cond (N.not r1)
                      (
                        N.ite (0 ≤ s1.2)
                          (
                            N.ite (s1.2 ≤ N.add .i64 s1.2 1)
                              (
                                N.ite (N.add .i64 s1.2 1 ≤ N.len x0)
                                  (
                                    N.bind (spec_l15Copy (N.cut x0 s1.2 (N.add .i64 s1.2 1))) fun r2 =>
                                      N.ite (N.fits s1.1 r2 88)
                                        (some (.inl (N.app s1.1 r2, N.add .i64 s1.2 1)))
                                        none)
                                  none)
                              none)
                          none)
                      (some (.inl (s1.1, N.add .i64 s1.2 1))))
                none)
            none)
        (some (.inr s1.1)))
    ([], 0)

noncomputable def spec_EqualInts (x0 : List Int) (x1 : List Int) : Option (Bool) :=
  N.cond (N.ne (N.len x0) (N.len x1))
    (some false)
    (
      loopF (fun (s1 : Int) =>
          N.cond (N.lt s1 (N.len x0))
            (
              N.ite (0 ≤ s1)
                (
                  N.ite (s1 < N.len x0)
                    (
                      N.ite (0 ≤ s1)
                        (
                          N.ite (s1 < N.len x1)
                            (
                              N.cond (N.ne (N.rd x0 s1 0) (N.rd x1 s1 0))
                                (some (.inr false))
                                (some (.inl (N.add .i64 s1 1))))
                            none)
                        none)
                    none)
                none)
            (some (.inr true)))
        0)

noncomputable def spec_EqualResources (x0 : Resource) (x1 : Resource) : Option (Bool) :=
  N.cond (N.eq x0.1 x1.1)
    (
      N.cond (N.both (N.eq x0.2.2.1 x1.2.2.1) (N.both (N.eq x0.2.2.2.1 x1.2.2.2.1) (N.eq x0.2.2.2.2 x1.2.2.2.2)))
        (
          N.bind (spec_EqualInts x0.2.1 x1.2.1) fun r1 =>
            some r1)
        (some false))
    (some false)

noncomputable def spec_l15Same (x0 : Capture) (x1 : Capture) : Option (Bool) :=
  N.cond (N.both (N.eq x0.1.1 x1.1.1) (N.both (N.eq x0.1.2.1 x1.1.2.1) (N.eq x0.1.2.2 x1.1.2.2)))
    (
      N.cond (N.eq x0.2.1 x1.2.1)
        (
          N.bind (spec_EqualResources x0.2.2 x1.2.2) fun r1 =>
            some r1)
        (some false))
    (some false)

noncomputable def spec_l20In (x0 : List Capture) (x1 : Capture) : Option (Bool) :=
  loopF (fun (s1 : Int) =>
      N.cond (N.lt s1 (N.len x0))
        (
          N.ite (0 ≤ s1)
            (
              N.ite (s1 < N.len x0)
                (
                  N.bind (spec_l15Same (N.rd x0 s1 ((0, 0, 0), 0, (0, [], (0, 0, 0)))) x1) fun r1 =>
                    N.cond r1
                      (some (.inr true))
                      (some (.inl (N.add .i64 s1 1))))
                none)
            none)
        (some (.inr false)))
    0

noncomputable def spec_MakeEdition (x0 : List (List Capture)) (x1 : Int) (x2 : Int) (x3 : List Address) : Option ((List Capture) × Int × Int × (List Address) × Bool) :=
  N.bind (spec_l1In x1 0 2000) fun r1 =>
    N.cond (N.not r1)
      (some ([], 0, 0, [], false))
      (
        N.bind (spec_l1In x2 x1 2000) fun r2 =>
          N.cond (N.not r2)
            (some ([], 0, 0, [], false))
            (
              N.ite (N.fits [] x3 24)
                (
                  loopF (fun (s1 : Int × (List Capture × Int × Int × List Address) × (List Capture × Int × Int × List Address)) =>
                      N.cond (N.lt s1.1 (N.len x0))
                        (
                          N.ite (0 ≤ s1.1)
                            (
                              N.ite (s1.1 < N.len x0)
                                (
                                  N.bind (spec_AreCaptures (N.rd x0 s1.1 [])) fun r3 =>
                                    N.cond (N.not r3)
                                      (some (.inr ([], 0, 0, [], false)))
                                      (
                                        N.ite (0 ≤ s1.1)
                                          (
                                            N.ite (s1.1 < N.len x0)
                                              (
                                                N.bind (spec_l23Without (N.rd x0 s1.1 []) x3) fun r4 =>
                                                  loopF (fun (s2 : Int × (List Capture × Int × Int × List Address)) =>
                                                      N.cond (N.lt s2.1 (N.len r4))
                                                        (
                                                          N.ite (0 ≤ s2.1)
                                                            (
                                                              N.ite (s2.1 < N.len r4)
                                                                (
                                                                  N.bind (spec_l1In ((N.rd r4 s2.1 ((0, 0, 0), 0, (0, [], (0, 0, 0)))).2.1) x1 x2) fun r5 =>
                                                                    N.cond r5
                                                                      (
                                                                        N.ite (0 ≤ s2.1)
                                                                          (
                                                                            N.ite (s2.1 < N.len r4)
                                                                              (
                                                                                N.bind (spec_l20In s2.2.1 (N.rd r4 s2.1 ((0, 0, 0), 0, (0, [], (0, 0, 0))))) fun r6 =>
                                                                                  N.cond (N.not r6)
                                                                                    (
                                                                                      N.ite (0 ≤ s2.1)
                                                                                        (
                                                                                          N.ite (s2.1 < N.len r4)
                                                                                            (
                                                                                              N.ite (N.fits s2.2.1 [N.rd r4 s2.1 ((0, 0, 0), 0, (0, [], (0, 0, 0)))] 88)
                                                                                                (some (.inl (N.add .i64 s2.1 1, (N.app s2.2.1 [N.rd r4 s2.1 ((0, 0, 0), 0, (0, [], (0, 0, 0)))], s2.2.2.1, s2.2.2.2.1, s2.2.2.2.2))))
                                                                                                none)
                                                                                            none)
                                                                                        none)
                                                                                    (some (.inl (N.add .i64 s2.1 1, s2.2))))
                                                                              none)
                                                                          none)
                                                                      (some (.inl (N.add .i64 s2.1 1, s2.2))))
                                                                none)
                                                            none)
                                                        (some (.inr (.inl (N.add .i64 s1.1 1, s1.2.1, s2.2)))))
                                                    (0, s1.2.2))
                                              none)
                                          none))
                                none)
                            none)
                        (
                          Option.map Sum.inr
                            (
                              N.bind (spec_AreCaptures s1.2.2.1) fun r7 =>
                                N.cond (N.not r7)
                                  (some ([], 0, 0, [], false))
                                  (some (s1.2.2.1, s1.2.2.2.1, s1.2.2.2.2.1, s1.2.2.2.2.2, true)))))
                    (0, ([], 0, 0, []), ([], x1, x2, N.app [] x3)))
                none))

noncomputable def slices_Clone_Address (x0 : List Address) : Option (List Address) :=
  N.nilc (N.isE x0)
    (some [])
    (
      N.ite (N.fits [] x0 24)
        (some (N.app [] x0))
        none)

noncomputable def impl_IsResource (x0 : Resource) : Option (Bool) :=
  N.cond (N.eq x0.1 1)
    (
      N.cond (N.eq x0.1 1)
        (
          N.cond (N.le (N.len x0.2.1) 6)
            (
              N.bind (impl_allIn x0.2.1 0 255) fun r1 =>
                N.cond r1
                  (some (N.both (N.eq x0.2.2.1 0) (N.both (N.eq x0.2.2.2.1 0) (N.eq x0.2.2.2.2 0))))
                  (some false))
            (some false))
        (
          N.cond (N.eq x0.1 3)
            (
              N.cond (N.eq (N.len x0.2.1) 0)
                (
                  N.bind (impl_IsAddress x0.2.2) fun r2 =>
                    some r2)
                (some false))
            (
              N.cond (N.eq x0.1 4)
                (
                  N.cond (N.eq (N.len x0.2.1) 0)
                    (some (N.both (N.eq x0.2.2.1 0) (N.both (N.eq x0.2.2.2.1 0) (N.eq x0.2.2.2.2 0))))
                    (some false))
                (some false))))
    (
      N.cond (N.eq x0.1 2)
        (
          N.cond (N.le (N.len x0.2.1) 6)
            (
              N.bind (impl_allIn x0.2.1 0 255) fun r3 =>
                N.cond r3
                  (some (N.both (N.eq x0.2.2.1 0) (N.both (N.eq x0.2.2.2.1 0) (N.eq x0.2.2.2.2 0))))
                  (some false))
            (some false))
        (
          N.cond (N.eq x0.1 3)
            (
              N.cond (N.eq (N.len x0.2.1) 0)
                (
                  N.bind (impl_IsAddress x0.2.2) fun r4 =>
                    some r4)
                (some false))
            (
              N.cond (N.eq x0.1 4)
                (
                  N.cond (N.eq (N.len x0.2.1) 0)
                    (some (N.both (N.eq x0.2.2.1 0) (N.both (N.eq x0.2.2.2.1 0) (N.eq x0.2.2.2.2 0))))
                    (some false))
                (some false))))

noncomputable def impl_AreCaptures_1 (x0 : Capture) : Option (Bool) :=
  N.bind (impl_IsAddress x0.1) fun r1 =>
    N.cond (N.not r1)
      (some true)
      (
        N.bind (impl_InRange x0.2.1 0 2000) fun r2 =>
          N.cond (N.not r2)
            (some true)
            (
              N.bind (impl_IsResource x0.2.2) fun r3 =>
                some (N.not r3)))

noncomputable def slices_IndexFunc_Capture_impl_AreCaptures_1 (x0 : List Capture) : Option (Int) :=
  loopF (fun (s1 : Int) =>
      N.cond (N.lt s1 (N.len x0))
        (
          N.ite (0 ≤ s1)
            (
              N.ite (s1 < N.len x0)
                (
                  N.bind (impl_AreCaptures_1 (N.rd x0 s1 ((0, 0, 0), 0, (0, [], (0, 0, 0))))) fun r1 =>
                    N.cond r1
                      (some (.inr s1))
                      (some (.inl (N.add .i64 s1 1))))
                none)
            none)
        (some (.inr (-1))))
    0

noncomputable def slices_ContainsFunc_Capture_impl_AreCaptures_1 (x0 : List Capture) : Option (Bool) :=
  N.bind (slices_IndexFunc_Capture_impl_AreCaptures_1 x0) fun r1 =>
    some (N.ge r1 0)

noncomputable def impl_AreCaptures (x0 : List Capture) : Option (Bool) :=
  N.cond (N.le (N.len x0) 20)
    (
      N.bind (slices_ContainsFunc_Capture_impl_AreCaptures_1 x0) fun r1 =>
        some (N.not r1))
    (some false)

noncomputable def slices_Index_Address (x0 : List Address) (x1 : Address) : Option (Int) :=
  loopF (fun (s1 : Int) =>
      N.cond (N.lt s1 (N.len x0))
        (
          N.ite (0 ≤ s1)
            (
              N.ite (s1 < N.len x0)
                (
                  N.cond (N.both (N.eq x1.1 ((N.rd x0 s1 (0, 0, 0)).1)) (N.both (N.eq x1.2.1 ((N.rd x0 s1 (0, 0, 0)).2.1)) (N.eq x1.2.2 ((N.rd x0 s1 (0, 0, 0)).2.2))))
                    (some (.inr s1))
                    (some (.inl (N.add .i64 s1 1))))
                none)
            none)
        (some (.inr (-1))))
    0

noncomputable def slices_Contains_Address (x0 : List Address) (x1 : Address) : Option (Bool) :=
  N.bind (slices_Index_Address x0 x1) fun r1 =>
    some (N.ge r1 0)

noncomputable def slices_Equal_int (x0 : List Int) (x1 : List Int) : Option (Bool) :=
  N.cond (N.ne (N.len x0) (N.len x1))
    (some false)
    (
      loopF (fun (s1 : Int) =>
          N.cond (N.lt s1 (N.len x0))
            (
              N.ite (0 ≤ s1)
                (
                  N.ite (s1 < N.len x0)
                    (
                      N.ite (0 ≤ s1)
                        (
                          N.ite (s1 < N.len x1)
                            (
                              N.cond (N.ne (N.rd x0 s1 0) (N.rd x1 s1 0))
                                (some (.inr false))
                                (some (.inl (N.add .i64 s1 1))))
                            none)
                        none)
                    none)
                none)
            (some (.inr true)))
        0)

noncomputable def impl_EqualResources (x0 : Resource) (x1 : Resource) : Option (Bool) :=
  N.cond (N.eq x0.1 x1.1)
    (
      N.cond (N.both (N.eq x0.2.2.1 x1.2.2.1) (N.both (N.eq x0.2.2.2.1 x1.2.2.2.1) (N.eq x0.2.2.2.2 x1.2.2.2.2)))
        (
          N.bind (slices_Equal_int x0.2.1 x1.2.1) fun r1 =>
            some r1)
        (some false))
    (some false)

noncomputable def impl_sameCapture (x0 : Capture) (x1 : Capture) : Option (Bool) :=
  N.cond (N.both (N.eq x0.1.1 x1.1.1) (N.both (N.eq x0.1.2.1 x1.1.2.1) (N.eq x0.1.2.2 x1.1.2.2)))
    (
      N.cond (N.eq x0.2.1 x1.2.1)
        (
          N.bind (impl_EqualResources x0.2.2 x1.2.2) fun r1 =>
            some r1)
        (some false))
    (some false)

noncomputable def impl_hasCapture_1 (x0 : Capture) (x1 : Capture) : Option (Bool) :=
  N.bind (impl_sameCapture x0 x1) fun r1 =>
    some r1

noncomputable def slices_IndexFunc_Capture_impl_hasCapture_1 (x0 : List Capture) (x1 : Capture) : Option (Int) :=
  loopF (fun (s1 : Int) =>
      N.cond (N.lt s1 (N.len x0))
        (
          N.ite (0 ≤ s1)
            (
              N.ite (s1 < N.len x0)
                (
                  N.bind (impl_hasCapture_1 (N.rd x0 s1 ((0, 0, 0), 0, (0, [], (0, 0, 0)))) x1) fun r1 =>
                    N.cond r1
                      (some (.inr s1))
                      (some (.inl (N.add .i64 s1 1))))
                none)
            none)
        (some (.inr (-1))))
    0

noncomputable def slices_ContainsFunc_Capture_impl_hasCapture_1 (x0 : List Capture) (x1 : Capture) : Option (Bool) :=
  N.bind (slices_IndexFunc_Capture_impl_hasCapture_1 x0 x1) fun r1 =>
    some (N.ge r1 0)

noncomputable def impl_hasCapture (x0 : List Capture) (x1 : Capture) : Option (Bool) :=
  N.bind (slices_ContainsFunc_Capture_impl_hasCapture_1 x0 x1) fun r1 =>
    some r1

noncomputable def impl_AddCaptures (x0 : List Capture) (x1 : List Capture) : Option ((List Capture) × Bool) :=
  N.bind (impl_copyCaptures x0) fun r1 =>
    loopF (fun (s1 : List Capture × Int) =>
        N.cond (N.lt s1.2 (N.len x1))
          (
            N.ite (0 ≤ s1.2)
              (
                N.ite (s1.2 < N.len x1)
                  (
                    N.bind (impl_hasCapture s1.1 (N.rd x1 s1.2 ((0, 0, 0), 0, (0, [], (0, 0, 0))))) fun r2 =>
                      N.cond (N.not r2)
                        (
                          N.bind (impl_copyResource ((N.rd x1 s1.2 ((0, 0, 0), 0, (0, [], (0, 0, 0)))).2.2)) fun r3 =>
                            N.ite (N.fits s1.1 [((N.rd x1 s1.2 ((0, 0, 0), 0, (0, [], (0, 0, 0)))).1, (N.rd x1 s1.2 ((0, 0, 0), 0, (0, [], (0, 0, 0)))).2.1, (r3.1, r3.2.1, (r3.2.2.1, r3.2.2.2.1, r3.2.2.2.2)))] 88)
                              (some (.inl (N.app s1.1 [((N.rd x1 s1.2 ((0, 0, 0), 0, (0, [], (0, 0, 0)))).1, (N.rd x1 s1.2 ((0, 0, 0), 0, (0, [], (0, 0, 0)))).2.1, (r3.1, r3.2.1, (r3.2.2.1, r3.2.2.2.1, r3.2.2.2.2)))], N.add .i64 s1.2 1)))
                              none)
                        (some (.inl (s1.1, N.add .i64 s1.2 1))))
                  none)
              none)
          (
            Option.map Sum.inr
              (
                N.bind (impl_AreCaptures s1.1) fun r4 =>
                  N.cond (N.not r4)
                    (
                      N.bind (impl_copyCaptures x0) fun r5 =>
                        some (r5, false))
                    (some (s1.1, true)))))
      (r1, 0)

noncomputable def impl_MakeEdition (x0 : List (List Capture)) (x1 : Int) (x2 : Int) (x3 : List Address) : Option ((List Capture) × Int × Int × (List Address) × Bool) :=
  N.bind (impl_InRange x1 0 2000) fun r1 =>
    N.cond (N.not r1)
      (some ([], 0, 0, [], false))
      (
        N.bind (impl_InRange x2 x1 2000) fun r2 =>
          N.cond (N.not r2)
            (some ([], 0, 0, [], false))
            (
              N.bind (slices_Clone_Address x3) fun r3 =>
                loopF (fun (s1 : Int × (List Capture × Int × Int × List Address) × (List Capture × Int × Int × List Address)) =>
                    N.cond (N.lt s1.1 (N.len x0))
                      (
                        N.ite (0 ≤ s1.1)
                          (
                            N.ite (s1.1 < N.len x0)
                              (
                                N.bind (impl_AreCaptures (N.rd x0 s1.1 [])) fun r4 =>
                                  N.cond (N.not r4)
                                    (some (.inr ([], 0, 0, [], false)))
                                    (
                                      loopF (fun (s2 : List Capture × Int) =>
                                          N.cond (N.lt s2.2 (N.len (N.rd x0 s1.1 [])))
                                            (
                                              N.ite (0 ≤ s2.2)
                                                (
                                                  N.ite (s2.2 < N.len (N.rd x0 s1.1 []))
                                                    (
                                                      N.bind (impl_InRange ((N.rd (N.rd x0 s1.1 []) s2.2 ((0, 0, 0), 0, (0, [], (0, 0, 0)))).2.1) x1 x2) fun r5 =>
                                                        N.cond r5
                                                          (
                                                            N.bind (slices_Contains_Address x3 ((N.rd (N.rd x0 s1.1 []) s2.2 ((0, 0, 0), 0, (0, [], (0, 0, 0)))).1)) fun r6 =>
                                                              N.cond (N.not r6)
                                                                (
                                                                  N.ite (N.fits s2.1 [N.rd (N.rd x0 s1.1 []) s2.2 ((0, 0, 0), 0, (0, [], (0, 0, 0)))] 88)
                                                                    (some (.inl (N.app s2.1 [N.rd (N.rd x0 s1.1 []) s2.2 ((0, 0, 0), 0, (0, [], (0, 0, 0)))], N.add .i64 s2.2 1)))
                                                                    none)
                                                                (some (.inl (s2.1, N.add .i64 s2.2 1))))
                                                          (some (.inl (s2.1, N.add .i64 s2.2 1))))
                                                    none)
                                                none)
                                            (
                                              Option.map Sum.inr
                                                (
                                                  N.bind (impl_AddCaptures s1.2.2.1 s2.1) fun r7 =>
                                                    N.cond (N.not r7.2)
                                                      (some (.inr ([], 0, 0, [], false)))
                                                      (some (.inl (N.add .i64 s1.1 1, s1.2.1, (r7.1, s1.2.2.2.1, s1.2.2.2.2.1, s1.2.2.2.2.2)))))))
                                        ([], 0)))
                              none)
                          none)
                      (some (.inr (s1.2.2.1, s1.2.2.2.1, s1.2.2.2.2.1, s1.2.2.2.2.2, true))))
                  (0, ([], 0, 0, []), ([], x1, x2, r3))))

noncomputable def laws_big (x0 : List Int) : Option (Bool) :=
  some (N.gt (N.len x0) 1048576)

noncomputable def spec_l1New (x0 : List Int) : Option (l1Cur) :=
  loopF (fun (s1 : Int × Int) =>
      N.cond (N.lt s1.2 (N.len x0))
        (
          N.cond (N.lt s1.2 4000)
            (
              N.ite (0 ≤ s1.2)
                (
                  N.ite (s1.2 < N.len x0)
                    (some (.inl (N.and .i64 (N.add .i64 (N.add .i64 (N.mul .i64 s1.1 137) (N.conv .i64 (N.rd x0 s1.2 0))) 11) 1073741823, N.add .i64 s1.2 1)))
                    none)
                none)
            (some (.inr (x0, 0, s1.1))))
        (some (.inr (x0, 0, s1.1))))
    (N.add .i64 193017 (N.len x0), 0)

noncomputable def spec_l1Byte (x0 : l1Cur) : Option (Int × l1Cur) :=
  N.cond (N.lt x0.2.1 (N.len x0.1))
    (
      N.ite (0 ≤ x0.2.1)
        (
          N.ite (x0.2.1 < N.len x0.1)
            (some (N.and .i64 (N.add .i64 (N.and .i64 (N.xor .i64 (N.shr .i64 (N.add .i64 (N.mul .i64 x0.2.2 6364136223846793005) 1442695040888963407) 33) (N.shr .i64 (N.add .i64 (N.mul .i64 x0.2.2 6364136223846793005) 1442695040888963407) 47)) 255) (N.conv .i64 (N.rd x0.1 x0.2.1 0))) 255, (x0.1, N.add .i64 x0.2.1 1, N.add .i64 (N.mul .i64 x0.2.2 6364136223846793005) 1442695040888963407)))
            none)
        none)
    (some (N.and .i64 (N.xor .i64 (N.shr .i64 (N.add .i64 (N.mul .i64 x0.2.2 6364136223846793005) 1442695040888963407) 33) (N.shr .i64 (N.add .i64 (N.mul .i64 x0.2.2 6364136223846793005) 1442695040888963407) 47)) 255, (x0.1, x0.2.1, N.add .i64 (N.mul .i64 x0.2.2 6364136223846793005) 1442695040888963407)))

noncomputable def spec_l1Below (x0 : l1Cur) (x1 : Int) : Option (Int × l1Cur) :=
  N.cond (N.le x1 0)
    (some (0, x0))
    (
      N.cond (N.le x1 256)
        (
          N.bind (spec_l1Byte x0) fun r1 =>
            N.ite (x1 = 0)
              none
              (some (N.rem r1.1 x1, r1.2)))
        (
          N.bind (spec_l1Byte x0) fun r2 =>
            N.bind (spec_l1Byte r2.2) fun r3 =>
              N.bind (spec_l1Byte r3.2) fun r4 =>
                N.ite (x1 = 0)
                  none
                  (some (N.rem (N.add .i64 (N.add .i64 (N.mul .i64 r2.1 65536) (N.mul .i64 r3.1 256)) r4.1) x1, r4.2))))

noncomputable def spec_l4Draw (x0 : l1Cur) : Option (Address × l1Cur) :=
  N.bind (spec_l1Below x0 3) fun r1 =>
    N.bind (spec_l1Below r1.2 3) fun r2 =>
      N.bind (spec_l1Below r2.2 3) fun r3 =>
        some ((N.add .i64 1 r1.1, r2.1, r3.1), r3.2)

noncomputable def spec_l5Body (x0 : l1Cur) : Option ((List Int) × l1Cur) :=
  N.bind (spec_l1Below x0 5) fun r1 =>
    loopF (fun (s1 : List Int × Int × (List Int × Int × Int)) =>
        N.cond (N.gt s1.2.1 0)
          (
            N.bind (spec_l1Below s1.2.2 9) fun r2 =>
              N.ite (N.fits s1.1 [r2.1] 8)
                (some (.inl (N.app s1.1 [r2.1], N.sub .i64 s1.2.1 1, r2.2)))
                none)
          (some (.inr (s1.1, s1.2.2))))
      ([], r1.1, r1.2)

noncomputable def spec_l5Draw (x0 : l1Cur) : Option (Int × (List Int) × Int × Int × Int × l1Cur) :=
  N.bind (spec_l1Below x0 6) fun r1 =>
    N.cond (N.eq r1.1 0)
      (
        N.bind (spec_l4Draw r1.2) fun r2 =>
          some (3, [], r2.1.1, r2.1.2.1, r2.1.2.2, r2.2))
      (
        N.cond (N.eq r1.1 1)
          (some (4, [], 0, 0, 0, r1.2))
          (
            N.bind (spec_l1Below r1.2 2) fun r3 =>
              N.bind (spec_l5Body r3.2) fun r4 =>
                some (N.add .i64 1 r3.1, r4.1, 0, 0, 0, r4.2)))

noncomputable def spec_l15Draw (x0 : l1Cur) : Option ((List Capture) × l1Cur) :=
  N.bind (spec_l1Below x0 8) fun r1 =>
    loopF (fun (s1 : List Capture × Int × (List Int × Int × Int)) =>
        N.cond (N.gt s1.2.1 0)
          (
            N.bind (spec_l4Draw s1.2.2) fun r2 =>
              N.bind (spec_l1Below r2.2 20) fun r3 =>
                N.bind (spec_l5Draw r3.2) fun r4 =>
                  N.ite (N.fits s1.1 [(r2.1, r3.1, (r4.1, r4.2.1, (r4.2.2.1, r4.2.2.2.1, r4.2.2.2.2.1)))] 88)
                    (some (.inl (N.app s1.1 [(r2.1, r3.1, (r4.1, r4.2.1, (r4.2.2.1, r4.2.2.2.1, r4.2.2.2.2.1)))], N.sub .i64 s1.2.1 1, r4.2.2.2.2.2)))
                    none)
          (some (.inr (s1.1, s1.2.2))))
      ([], r1.1, r1.2)

noncomputable def spec_l1Once (x0 : l1Cur) (x1 : Int) : Option (Bool × l1Cur) :=
  N.bind (spec_l1Below x0 x1) fun r1 =>
    some (N.eq r1.1 0, r1.2)

noncomputable def spec_l23Lists (x0 : l1Cur) : Option ((List (List Capture)) × l1Cur) :=
  N.bind (spec_l1Below x0 4) fun r1 =>
    loopF (fun (s1 : List (List Capture) × Int × (List Int × Int × Int)) =>
        N.cond (N.gt s1.2.1 0)
          (
            N.bind (spec_l15Draw s1.2.2) fun r2 =>
              N.cond (N.gt (N.len s1.1) 0)
                (
                  N.bind (spec_l1Once r2.2 2) fun r3 =>
                    N.cond r3.1
                      (
                        N.ite (0 < N.len s1.1)
                          (
                            N.bind (spec_l15Copy (N.rd s1.1 0 [])) fun r4 =>
                              N.ite (N.fits r2.1 r4 88)
                                (
                                  N.ite (N.fits s1.1 [N.app r2.1 r4] 24)
                                    (some (.inl (N.app s1.1 [N.app r2.1 r4], N.sub .i64 s1.2.1 1, r3.2)))
                                    none)
                                none)
                          none)
                      (
                        N.ite (N.fits s1.1 [r2.1] 24)
                          (some (.inl (N.app s1.1 [r2.1], N.sub .i64 s1.2.1 1, r3.2)))
                          none))
                (
                  N.ite (N.fits s1.1 [r2.1] 24)
                    (some (.inl (N.app s1.1 [r2.1], N.sub .i64 s1.2.1 1, r2.2)))
                    none))
          (some (.inr (s1.1, s1.2.2))))
      ([], r1.1, r1.2)

noncomputable def spec_l23Hidden (x0 : l1Cur) : Option ((List Address) × l1Cur) :=
  N.bind (spec_l1Below x0 3) fun r1 =>
    loopF (fun (s1 : List Address × Int × (List Int × Int × Int)) =>
        N.cond (N.gt s1.2.1 0)
          (
            N.bind (spec_l4Draw s1.2.2) fun r2 =>
              N.ite (N.fits s1.1 [r2.1] 24)
                (some (.inl (N.app s1.1 [r2.1], N.sub .i64 s1.2.1 1, r2.2)))
                none)
          (some (.inr (s1.1, s1.2.2))))
      ([], r1.1, r1.2)

noncomputable def spec_l1Int (x0 : l1Cur) (x1 : List Int) : Option (Int × l1Cur) :=
  N.bind (spec_l1Below x0 (N.len x1)) fun r1 =>
    N.ite (0 ≤ r1.1)
      (
        N.ite (r1.1 < N.len x1)
          (some (N.rd x1 r1.1 0, r1.2))
          none)
      none

noncomputable def spec_DrawMakeEdition (x0 : List Int) : Option ((List (List Capture)) × Int × Int × (List Address)) :=
  N.bind (spec_l1New x0) fun r1 =>
    N.bind (spec_l23Lists r1) fun r2 =>
      N.bind (spec_l23Hidden r2.2) fun r3 =>
        N.bind (spec_l1Int r3.2 [0, 3, 9, (-1)]) fun r4 =>
          N.bind (spec_l1Int r4.2 [8, 15, 2000, 2001]) fun r5 =>
            some (r2.1, r4.1, r5.1, r3.1)

noncomputable def impl_IsEdition (x0 : Edition) : Option (Bool) :=
  N.bind (impl_AreCaptures x0.1) fun r1 =>
    N.cond (N.not r1)
      (some false)
      (
        N.bind (impl_InRange x0.2.1 0 x0.2.2.1) fun r2 =>
          N.cond (N.not r2)
            (some false)
            (
              N.cond (N.gt x0.2.2.1 2000)
                (some false)
                (
                  loopF (fun (s1 : Int) =>
                      N.cond (N.lt s1 (N.len x0.1))
                        (
                          N.ite (0 ≤ s1)
                            (
                              N.ite (s1 < N.len x0.1)
                                (
                                  N.bind (impl_InRange ((N.rd x0.1 s1 ((0, 0, 0), 0, (0, [], (0, 0, 0)))).2.1) x0.2.1 x0.2.2.1) fun r3 =>
                                    N.cond (N.not r3)
                                      (some (.inr false))
                                      (
                                        N.bind (slices_Contains_Address x0.2.2.2 ((N.rd x0.1 s1 ((0, 0, 0), 0, (0, [], (0, 0, 0)))).1)) fun r4 =>
                                          N.cond r4
                                            (some (.inr false))
                                            (
                                              N.ite (0 ≤ s1)
                                                (
                                                  N.ite (s1 ≤ N.len x0.1)
                                                    (
                                                      N.bind (impl_hasCapture (N.cut x0.1 0 s1) (N.rd x0.1 s1 ((0, 0, 0), 0, (0, [], (0, 0, 0))))) fun r5 =>
                                                        N.cond r5
                                                          (some (.inr false))
                                                          (some (.inl (N.add .i64 s1 1))))
                                                    none)
                                                none)))
                                none)
                            none)
                        (some (.inr true)))
                    0)))

noncomputable def slices_EqualFunc_Capture_impl_sameCapture (x0 : List Capture) (x1 : List Capture) : Option (Bool) :=
  N.cond (N.ne (N.len x0) (N.len x1))
    (some false)
    (
      loopF (fun (s1 : Int) =>
          N.cond (N.lt s1 (N.len x0))
            (
              N.ite (0 ≤ s1)
                (
                  N.ite (s1 < N.len x0)
                    (
                      N.ite (0 ≤ s1)
                        (
                          N.ite (s1 < N.len x1)
                            (
                              N.bind (impl_sameCapture (N.rd x0 s1 ((0, 0, 0), 0, (0, [], (0, 0, 0)))) (N.rd x1 s1 ((0, 0, 0), 0, (0, [], (0, 0, 0))))) fun r1 =>
                                N.cond (N.not r1)
                                  (some (.inr false))
                                  (some (.inl (N.add .i64 s1 1))))
                            none)
                        none)
                    none)
                none)
            (some (.inr true)))
        0)

noncomputable def impl_EqualCaptures (x0 : List Capture) (x1 : List Capture) : Option (Bool) :=
  N.bind (slices_EqualFunc_Capture_impl_sameCapture x0 x1) fun r1 =>
    some r1

noncomputable def impl_outside (x0 : List Capture) (x1 : List Address) : Option (List Capture) :=
  loopF (fun (s1 : List Capture × Int) =>
      N.cond (N.lt s1.2 (N.len x0))
        (
          N.ite (0 ≤ s1.2)
            (
              N.ite (s1.2 < N.len x0)
                (
                  N.bind (slices_Contains_Address x1 ((N.rd x0 s1.2 ((0, 0, 0), 0, (0, [], (0, 0, 0)))).1)) fun r1 =>
                    N.cond (N.not r1)
                      (
                        N.ite (N.fits s1.1 [N.rd x0 s1.2 ((0, 0, 0), 0, (0, [], (0, 0, 0)))] 88)
                          (some (.inl (N.app s1.1 [N.rd x0 s1.2 ((0, 0, 0), 0, (0, [], (0, 0, 0)))], N.add .i64 s1.2 1)))
                          none)
                      (some (.inl (s1.1, N.add .i64 s1.2 1))))
                none)
            none)
        (some (.inr s1.1)))
    ([], 0)

noncomputable def impl_AgreeOutside (x0 : Edition) (x1 : Edition) (x2 : List Address) : Option (Bool) :=
  N.bind (impl_outside x0.1 x2) fun r1 =>
    N.bind (impl_outside x1.1 x2) fun r2 =>
      N.bind (impl_EqualCaptures r1 r2) fun r3 =>
        some r3

noncomputable def spec_l23Draw (x0 : l1Cur) : Option ((List Capture) × Int × Int × (List Address) × l1Cur) :=
  N.bind (spec_l23Lists x0) fun r1 =>
    N.bind (spec_l1Below r1.2 6) fun r2 =>
      N.bind (spec_l1Below r2.2 12) fun r3 =>
        N.bind (spec_l23Hidden r3.2) fun r4 =>
          N.bind (spec_MakeEdition r1.1 r2.1 (N.add .i64 10 r3.1) r4.1) fun r5 =>
            some (r5.1, r5.2.1, r5.2.2.1, r5.2.2.2.1, r4.2)

noncomputable def spec_l4Raw (x0 : l1Cur) : Option (Int × l1Cur) :=
  N.bind (spec_l1Int x0 [(-1), 0, 9, 10, 99, 100, 9223372036854775807, (-9223372036854775808)]) fun r1 =>
    some r1

noncomputable def spec_l23Any (x0 : l1Cur) : Option ((List Capture) × Int × Int × (List Address) × l1Cur) :=
  N.bind (spec_l23Draw x0) fun r1 =>
    N.bind (spec_l1Below r1.2.2.2.2 9) fun r2 =>
      N.cond (N.eq r2.1 0)
        (
          N.bind (spec_l4Raw r2.2) fun r3 =>
            some (r1.1, r3.1, r1.2.2.1, r1.2.2.2.1, r3.2))
        (
          N.cond (N.eq r2.1 1)
            (
              N.bind (spec_l1Int r2.2 [0, 2000, 2001]) fun r4 =>
                some (r1.1, r1.2.1, r4.1, r1.2.2.2.1, r4.2))
            (
              N.cond (N.eq r2.1 2)
                (
                  N.cond (N.gt (N.len r1.1) 0)
                    (
                      N.ite (1 ≤ N.len r1.1)
                        (
                          N.bind (spec_l15Copy (N.cut r1.1 0 1)) fun r5 =>
                            N.ite (N.fits r1.1 r5 88)
                              (some (N.app r1.1 r5, r1.2.1, r1.2.2.1, r1.2.2.2.1, r2.2))
                              none)
                        none)
                    (some (r1.1, r1.2.1, r1.2.2.1, r1.2.2.2.1, r2.2)))
                (
                  N.cond (N.eq r2.1 3)
                    (
                      N.bind (spec_l4Draw r2.2) fun r6 =>
                        N.ite (N.fits r1.2.2.2.1 [r6.1] 24)
                          (some (r1.1, r1.2.1, r1.2.2.1, N.app r1.2.2.2.1 [r6.1], r6.2))
                          none)
                    (some (r1.1, r1.2.1, r1.2.2.1, r1.2.2.2.1, r2.2)))))

noncomputable def spec_l23Copy (x0 : Edition) : Option ((List Capture) × Int × Int × (List Address)) :=
  N.bind (spec_l15Copy x0.1) fun r1 =>
    N.ite (N.fits [] x0.2.2.2 24)
      (some (r1, x0.2.1, x0.2.2.1, N.app [] x0.2.2.2))
      none

noncomputable def spec_DrawEqualEditions (x0 : List Int) : Option (Edition × Edition) :=
  N.bind (spec_l1New x0) fun r1 =>
    N.bind (spec_l23Any r1) fun r2 =>
      N.bind (spec_l1Once r2.2.2.2.2 2) fun r3 =>
        N.cond r3.1
          (
            N.bind (spec_l23Copy (r2.1, r2.2.1, r2.2.2.1, r2.2.2.2.1)) fun r4 =>
              some ((r2.1, r2.2.1, r2.2.2.1, r2.2.2.2.1), r4))
          (
            N.bind (spec_l23Any r3.2) fun r5 =>
              some ((r2.1, r2.2.1, r2.2.2.1, r2.2.2.2.1), (r5.1, r5.2.1, r5.2.2.1, r5.2.2.2.1)))

noncomputable def spec_DrawIsEdition (x0 : List Int) : Option ((List Capture) × Int × Int × (List Address)) :=
  N.bind (spec_l1New x0) fun r1 =>
    N.bind (spec_l23Any r1) fun r2 =>
      some (r2.1, r2.2.1, r2.2.2.1, r2.2.2.2.1)

noncomputable def spec_DrawEditionInts (x0 : List Int) : Option ((List Capture) × Int × Int × (List Address)) :=
  N.bind (spec_DrawIsEdition x0) fun r1 =>
    some r1

noncomputable def slices_Equal_Address (x0 : List Address) (x1 : List Address) : Option (Bool) :=
  N.cond (N.ne (N.len x0) (N.len x1))
    (some false)
    (
      loopF (fun (s1 : Int) =>
          N.cond (N.lt s1 (N.len x0))
            (
              N.ite (0 ≤ s1)
                (
                  N.ite (s1 < N.len x0)
                    (
                      N.ite (0 ≤ s1)
                        (
                          N.ite (s1 < N.len x1)
                            (
                              N.cond (N.not (N.both (N.eq ((N.rd x0 s1 (0, 0, 0)).1) ((N.rd x1 s1 (0, 0, 0)).1)) (N.both (N.eq ((N.rd x0 s1 (0, 0, 0)).2.1) ((N.rd x1 s1 (0, 0, 0)).2.1)) (N.eq ((N.rd x0 s1 (0, 0, 0)).2.2) ((N.rd x1 s1 (0, 0, 0)).2.2)))))
                                (some (.inr false))
                                (some (.inl (N.add .i64 s1 1))))
                            none)
                        none)
                    none)
                none)
            (some (.inr true)))
        0)

noncomputable def impl_EqualEditions (x0 : Edition) (x1 : Edition) : Option (Bool) :=
  N.bind (impl_EqualCaptures x0.1 x1.1) fun r1 =>
    N.cond r1
      (
        N.cond (N.eq x0.2.1 x1.2.1)
          (
            N.cond (N.eq x0.2.2.1 x1.2.2.1)
              (
                N.bind (slices_Equal_Address x0.2.2.2 x1.2.2.2) fun r2 =>
                  some r2)
              (some false))
          (some false))
      (some false)

noncomputable def laws_FnEditions (x0 : List Int) : Option (Bool) :=
  N.bind (laws_big x0) fun r1 =>
    N.cond r1
      (some true)
      (
        N.bind (spec_DrawMakeEdition x0) fun r2 =>
          N.bind (impl_MakeEdition r2.1 r2.2.1 r2.2.2.1 r2.2.2.2) fun r3 =>
            N.cond r3.2.2.2.2
              (
                N.bind (impl_IsEdition (r3.1, r3.2.1, r3.2.2.1, r3.2.2.2.1)) fun r4 =>
                  N.cond (N.not r4)
                    (some false)
                    (
                      loopF (fun (s1 : Int) =>
                          N.cond (N.lt s1 (N.len r2.1))
                            (
                              loopF (fun (s2 : Int) =>
                                  N.ite (0 ≤ s1)
                                    (
                                      N.ite (s1 < N.len r2.1)
                                        (
                                          N.cond (N.lt s2 (N.len (N.rd r2.1 s1 [])))
                                            (
                                              N.ite (0 ≤ s1)
                                                (
                                                  N.ite (s1 < N.len r2.1)
                                                    (
                                                      N.ite (0 ≤ s2)
                                                        (
                                                          N.ite (s2 < N.len (N.rd r2.1 s1 []))
                                                            (
                                                              N.cond (N.ge ((N.rd (N.rd r2.1 s1 []) s2 ((0, 0, 0), 0, (0, [], (0, 0, 0)))).2.1) r2.2.1)
                                                                (
                                                                  loopF (fun (s3 : Bool × Int) =>
                                                                      N.cond (N.lt s3.2 (N.len r2.2.2.2))
                                                                        (
                                                                          N.cond s3.1
                                                                            (
                                                                              N.ite (0 ≤ s3.2)
                                                                                (
                                                                                  N.ite (s3.2 < N.len r2.2.2.2)
                                                                                    (some (.inl (N.not (N.both (N.eq ((N.rd r2.2.2.2 s3.2 (0, 0, 0)).1) (((N.rd (N.rd r2.1 s1 []) s2 ((0, 0, 0), 0, (0, [], (0, 0, 0)))).1).1)) (N.both (N.eq ((N.rd r2.2.2.2 s3.2 (0, 0, 0)).2.1) (((N.rd (N.rd r2.1 s1 []) s2 ((0, 0, 0), 0, (0, [], (0, 0, 0)))).1).2.1)) (N.eq ((N.rd r2.2.2.2 s3.2 (0, 0, 0)).2.2) (((N.rd (N.rd r2.1 s1 []) s2 ((0, 0, 0), 0, (0, [], (0, 0, 0)))).1).2.2)))), N.add .i64 s3.2 1)))
                                                                                    none)
                                                                                none)
                                                                            (some (.inl (false, N.add .i64 s3.2 1))))
                                                                        (
                                                                          Option.map Sum.inr
                                                                            (
                                                                              loopF (fun (s4 : Bool × Int) =>
                                                                                  N.cond (N.lt s4.2 (N.len r3.1))
                                                                                    (
                                                                                      N.cond s4.1
                                                                                        (some (.inl (true, N.add .i64 s4.2 1)))
                                                                                        (
                                                                                          N.ite (0 ≤ s4.2)
                                                                                            (
                                                                                              N.ite (s4.2 ≤ N.add .i64 s4.2 1)
                                                                                                (
                                                                                                  N.ite (N.add .i64 s4.2 1 ≤ N.len r3.1)
                                                                                                    (
                                                                                                      N.ite (0 ≤ s1)
                                                                                                        (
                                                                                                          N.ite (s1 < N.len r2.1)
                                                                                                            (
                                                                                                              N.ite (0 ≤ s2)
                                                                                                                (
                                                                                                                  N.ite (s2 ≤ N.add .i64 s2 1)
                                                                                                                    (
                                                                                                                      N.ite (N.add .i64 s2 1 ≤ N.len (N.rd r2.1 s1 []))
                                                                                                                        (
                                                                                                                          N.bind (impl_EqualCaptures (N.cut r3.1 s4.2 (N.add .i64 s4.2 1)) (N.cut (N.rd r2.1 s1 []) s2 (N.add .i64 s2 1))) fun r5 =>
                                                                                                                            some (.inl (r5, N.add .i64 s4.2 1)))
                                                                                                                        none)
                                                                                                                    none)
                                                                                                                none)
                                                                                                            none)
                                                                                                        none)
                                                                                                    none)
                                                                                                none)
                                                                                            none))
                                                                                    (
                                                                                      Option.map Sum.inr
                                                                                        (
                                                                                          N.cond (N.neB s4.1 s3.1)
                                                                                            (some (.inr (.inr false)))
                                                                                            (some (.inl (N.add .i64 s2 1))))))
                                                                                (false, 0))))
                                                                    (N.le ((N.rd (N.rd r2.1 s1 []) s2 ((0, 0, 0), 0, (0, [], (0, 0, 0)))).2.1) r2.2.2.1, 0))
                                                                (
                                                                  loopF (fun (s5 : Bool × Int) =>
                                                                      N.cond (N.lt s5.2 (N.len r2.2.2.2))
                                                                        (
                                                                          N.cond s5.1
                                                                            (
                                                                              N.ite (0 ≤ s5.2)
                                                                                (
                                                                                  N.ite (s5.2 < N.len r2.2.2.2)
                                                                                    (some (.inl (N.not (N.both (N.eq ((N.rd r2.2.2.2 s5.2 (0, 0, 0)).1) (((N.rd (N.rd r2.1 s1 []) s2 ((0, 0, 0), 0, (0, [], (0, 0, 0)))).1).1)) (N.both (N.eq ((N.rd r2.2.2.2 s5.2 (0, 0, 0)).2.1) (((N.rd (N.rd r2.1 s1 []) s2 ((0, 0, 0), 0, (0, [], (0, 0, 0)))).1).2.1)) (N.eq ((N.rd r2.2.2.2 s5.2 (0, 0, 0)).2.2) (((N.rd (N.rd r2.1 s1 []) s2 ((0, 0, 0), 0, (0, [], (0, 0, 0)))).1).2.2)))), N.add .i64 s5.2 1)))
                                                                                    none)
                                                                                none)
                                                                            (some (.inl (false, N.add .i64 s5.2 1))))
                                                                        (
                                                                          Option.map Sum.inr
                                                                            (
                                                                              loopF (fun (s6 : Bool × Int) =>
                                                                                  N.cond (N.lt s6.2 (N.len r3.1))
                                                                                    (
                                                                                      N.cond s6.1
                                                                                        (some (.inl (true, N.add .i64 s6.2 1)))
                                                                                        (
                                                                                          N.ite (0 ≤ s6.2)
                                                                                            (
                                                                                              N.ite (s6.2 ≤ N.add .i64 s6.2 1)
                                                                                                (
                                                                                                  N.ite (N.add .i64 s6.2 1 ≤ N.len r3.1)
                                                                                                    (
                                                                                                      N.ite (0 ≤ s1)
                                                                                                        (
                                                                                                          N.ite (s1 < N.len r2.1)
                                                                                                            (
                                                                                                              N.ite (0 ≤ s2)
                                                                                                                (
                                                                                                                  N.ite (s2 ≤ N.add .i64 s2 1)
                                                                                                                    (
                                                                                                                      N.ite (N.add .i64 s2 1 ≤ N.len (N.rd r2.1 s1 []))
                                                                                                                        (
                                                                                                                          N.bind (impl_EqualCaptures (N.cut r3.1 s6.2 (N.add .i64 s6.2 1)) (N.cut (N.rd r2.1 s1 []) s2 (N.add .i64 s2 1))) fun r6 =>
                                                                                                                            some (.inl (r6, N.add .i64 s6.2 1)))
                                                                                                                        none)
                                                                                                                    none)
                                                                                                                none)
                                                                                                            none)
                                                                                                        none)
                                                                                                    none)
                                                                                                none)
                                                                                            none))
                                                                                    (
                                                                                      Option.map Sum.inr
                                                                                        (
                                                                                          N.cond (N.neB s6.1 s5.1)
                                                                                            (some (.inr (.inr false)))
                                                                                            (some (.inl (N.add .i64 s2 1))))))
                                                                                (false, 0))))
                                                                    (false, 0)))
                                                            none)
                                                        none)
                                                    none)
                                                none)
                                            (some (.inr (.inl (N.add .i64 s1 1)))))
                                        none)
                                    none)
                                0)
                            (
                              Option.map Sum.inr
                                (
                                  N.bind (impl_MakeEdition r2.1 r2.2.1 r2.2.2.1 []) fun r7 =>
                                    N.cond r7.2.2.2.2
                                      (
                                        N.bind (impl_AgreeOutside (r3.1, r3.2.1, r3.2.2.1, r3.2.2.2.1) (r7.1, r7.2.1, r7.2.2.1, r7.2.2.2.1) r2.2.2.2) fun r8 =>
                                          N.cond (N.not r8)
                                            (some false)
                                            (
                                              N.bind (spec_DrawEqualEditions x0) fun r9 =>
                                                N.bind (spec_DrawEditionInts x0) fun r10 =>
                                                  N.bind (impl_EqualEditions r9.1 r9.2) fun r11 =>
                                                    N.bind (impl_EqualEditions r9.2 r9.1) fun r12 =>
                                                      N.cond (N.eqB r11 r12)
                                                        (
                                                          N.bind (impl_EqualEditions r9.1 r9.1) fun r13 =>
                                                            N.cond r13
                                                              (
                                                                N.bind (impl_EditionInts r10) fun r14 =>
                                                                  some (N.ge (N.len r14) 2))
                                                              (some false))
                                                        (some false)))
                                      (
                                        N.bind (spec_DrawEqualEditions x0) fun r15 =>
                                          N.bind (spec_DrawEditionInts x0) fun r16 =>
                                            N.bind (impl_EqualEditions r15.1 r15.2) fun r17 =>
                                              N.bind (impl_EqualEditions r15.2 r15.1) fun r18 =>
                                                N.cond (N.eqB r17 r18)
                                                  (
                                                    N.bind (impl_EqualEditions r15.1 r15.1) fun r19 =>
                                                      N.cond r19
                                                        (
                                                          N.bind (impl_EditionInts r16) fun r20 =>
                                                            some (N.ge (N.len r20) 2))
                                                        (some false))
                                                  (some false)))))
                        0))
              (
                N.bind (spec_DrawEqualEditions x0) fun r21 =>
                  N.bind (spec_DrawEditionInts x0) fun r22 =>
                    N.bind (impl_EqualEditions r21.1 r21.2) fun r23 =>
                      N.bind (impl_EqualEditions r21.2 r21.1) fun r24 =>
                        N.cond (N.eqB r23 r24)
                          (
                            N.bind (impl_EqualEditions r21.1 r21.1) fun r25 =>
                              N.cond r25
                                (
                                  N.bind (impl_EditionInts r22) fun r26 =>
                                    some (N.ge (N.len r26) 2))
                                (some false))
                          (some false)))

end D
end Go.Sh
set_option linter.unusedVariables false
set_option linter.unusedSimpArgs false
namespace Go.Sh
open Go
/-! ## Loops -/
theorem loopN_det {S R : Type} {step : S → Option (S ⊕ R)} : ∀ {n m : Nat} {s : S} {a b : R}, loopN step n s = some a → loopN step m s = some b → a = b
  | 0, _, _, _, _, h, _ => by simp [loopN] at h
  | _ + 1, 0, _, _, _, _, h => by simp [loopN] at h
  | n + 1, m + 1, s, a, b, h1, h2 => by
    simp only [loopN] at h1 h2
    split at h1
    · cases h1
    · rename_i s' hs; rw [hs] at h2; exact loopN_det h1 h2
    · rename_i r hr; rw [hr] at h2; simp at h1 h2; rw [← h1, ← h2]

theorem loopF_of {S R : Type} {step : S → Option (S ⊕ R)} {s : S} {n : Nat} {r : R} (h : loopN step n s = some r) : loopF step s = some r := by
  have hx : ∃ n r, loopN step n s = some r := ⟨n, r, h⟩
  unfold loopF
  rw [dif_pos hx]
  obtain ⟨m, hm⟩ := Classical.choose_spec hx |> fun h => (⟨_, Classical.choose_spec h⟩ : ∃ v, loopN step (Classical.choose hx) s = some v)
  have := Classical.choose_spec (Classical.choose_spec hx)
  rw [loopN_det this h]

theorem loopF_inr {S R : Type} {step : S → Option (S ⊕ R)} {s : S} {r : R} (h : step s = some (.inr r)) : loopF step s = some r :=
  loopF_of (n := 1) (by simp [loopN, h])

theorem loopF_inl {S R : Type} {step : S → Option (S ⊕ R)} {s s' : S} (h : step s = some (.inl s')) : loopF step s = loopF step s' := by
  by_cases hx : ∃ n r, loopN step n s' = some r
  · obtain ⟨n, r, hn⟩ := hx
    rw [loopF_of hn, loopF_of (n := n + 1) (r := r) (by simp [loopN, h, hn])]
  · have hy : ¬ ∃ n r, loopN step n s = some r := by
      rintro ⟨n, r, hn⟩
      cases n with
      | zero => simp [loopN] at hn
      | succ n => simp only [loopN, h] at hn; exact hx ⟨n, r, hn⟩
    unfold loopF
    rw [dif_neg hx, dif_neg hy]

/-- a loop over a list: what each round does -/
def each {α σ R : Type} (body : α → σ → Option (σ ⊕ R)) (fin : σ → Option R) : List α → σ → Option R
  | [], a => fin a
  | x :: xs, a => match body x a with
    | none => none
    | some (.inl a') => each body fin xs a'
    | some (.inr r) => some r

/-- counting up to n -/
theorem loop_upto {σ S R : Type} {step : S → Option (S ⊕ R)} (n : Nat) (emb : Nat → σ → S) (st : Nat → σ) (r : R)
    (hstep : ∀ k < n, step (emb k (st k)) = some (.inl (emb (k + 1) (st (k + 1))))) (hend : step (emb n (st n)) = some (.inr r)) : loopF step (emb 0 (st 0)) = some r := by
  have key : ∀ (m k : Nat), k + m = n → loopF step (emb k (st k)) = some r := by
    intro m
    induction m with
    | zero => intro k hk; have : k = n := by omega
              subst this; exact loopF_inr hend
    | succ m ih => intro k hk; rw [loopF_inl (hstep k (by omega))]; exact ih (k + 1) (by omega)
  exact key n 0 (by omega)

/-! ## Words -/

section
variable {R α β : Type}
@[simp] theorem bind_some' (x : β) (f : β → Option R) : N.bind (some x) f = f x := rfl

@[simp] theorem cond_true (x y : Option R) : N.cond true x y = x := rfl

@[simp] theorem cond_false (x y : Option R) : N.cond false x y = y := rfl

theorem cond_if (b : Bool) (x y : Option R) : N.cond b x y = if b = true then x else y := rfl

theorem cond_dec (p : Prop) [Decidable p] (x y : Option R) : N.cond (decide p) x y = if p then x else y := by unfold N.cond; by_cases h : p <;> simp [h]

theorem ite_if (c : Prop) [Decidable c] (x y : Option R) : N.ite c x y = if c then x else y := rfl

theorem nite_pos {c : Prop} [Decidable c] (h : c) (x y : Option R) : N.ite c x y = x := if_pos h

theorem nite_neg {c : Prop} [Decidable c] (h : ¬ c) (x y : Option R) : N.ite c x y = y := if_neg h

theorem lt_d (a b : Int) : N.lt a b = decide (a < b) := rfl

theorem le_d (a b : Int) : N.le a b = decide (a ≤ b) := rfl

theorem gt_d (a b : Int) : N.gt a b = decide (b < a) := rfl

theorem ge_d (a b : Int) : N.ge a b = decide (b ≤ a) := rfl

theorem eq_d (a b : Int) : N.eq a b = decide (a = b) := rfl

theorem ne_d (a b : Int) : N.ne a b = decide (¬ a = b) := by
  unfold N.ne; by_cases h : a = b <;> simp [h]

theorem len_d (xs : List α) : N.len xs = (xs.length : Int) := by simp [N.len]

theorem rd_at (xs : List α) (k : Nat) (hk : k < xs.length) (d : α) : N.rd xs (k : Int) d = xs[k] := by
  simp [N.rd, List.getD, hk]

theorem wrap_id {n : Int} (h1 : -9223372036854775808 ≤ n) (h2 : n < 9223372036854775808) : IntKind.i64.wrap n = n := by
  have e1 : ((2 : Int) ^ IntKind.i64.bits) = 18446744073709551616 := by decide
  have e2 : ((2 : Int) ^ (IntKind.i64.bits - 1)) = 9223372036854775808 := by decide
  have e3 : IntKind.i64.signed = true := rfl
  unfold IntKind.wrap
  rw [e1, e2, e3]
  simp only [Bool.true_and, decide_eq_true_eq]
  split <;> omega

theorem add_id {a b : Int} (h1 : -9223372036854775808 ≤ a + b) (h2 : a + b < 9223372036854775808) : N.add .i64 a b = a + b := wrap_id h1 h2

theorem sub_id {a b : Int} (h1 : -9223372036854775808 ≤ a - b) (h2 : a - b < 9223372036854775808) : N.sub .i64 a b = a - b := wrap_id h1 h2

theorem mul_id {a b : Int} (h1 : -9223372036854775808 ≤ a * b) (h2 : a * b < 9223372036854775808) : N.mul .i64 a b = a * b := wrap_id h1 h2

theorem next_id {k n : Nat} (hk : k < n) (hn : (n : Int) < 9223372036854775808) : N.add .i64 (k : Int) 1 = ((k + 1 : Nat) : Int) := by
  rw [add_id (by omega) (by omega)]; omega

end
end Go.Sh
set_option linter.unusedVariables false
set_option linter.unusedSimpArgs false
namespace Go.Sh
open Go
/-! ## Bounds of data -/
class Data (α : Type) where
  bd : α → Prop
  ok : α → Prop
  le : ∀ x, ok x → bd x

open Data
instance : Data Int := ⟨fun x => -9223372036854775808 ≤ x ∧ x < 9223372036854775808, fun x => -9223372036854775808 ≤ x ∧ x < 9223372036854775808, fun _ h => h⟩

instance : Data Bool := ⟨fun _ => True, fun _ => True, fun _ h => h⟩

instance : Data ByteArray := ⟨fun s => s.size ≤ 4611686018427387904, fun s => s.size ≤ 4611686018427387904, fun _ h => h⟩

instance {α β : Type} [Data α] [Data β] : Data (α × β) := ⟨fun x => bd x.1 ∧ bd x.2, fun x => ok x.1 ∧ ok x.2, fun x h => ⟨le _ h.1, le _ h.2⟩⟩

instance {α : Type} [Data α] : Data (List α) := ⟨fun xs => xs.length ≤ 4611686018427387904 ∧ ∀ x ∈ xs, bd x, fun xs => xs.length ≤ 1048576 ∧ ∀ x ∈ xs, ok x, fun xs h => ⟨by omega, fun x hx => le x (h.2 x hx)⟩⟩

section
variable {α : Type} [Data α]
theorem Data.ok.at {xs : List α} (h : ok xs) {k : Nat} (hk : k < xs.length) : ok xs[k] := h.2 _ (List.getElem_mem hk)

theorem Data.bd.at {xs : List α} (h : bd xs) {k : Nat} (hk : k < xs.length) : bd xs[k] := h.2 _ (List.getElem_mem hk)

theorem Data.ok.sub {xs ys : List α} (h : ok xs) (hs : ys.Sublist xs) : ok ys := ⟨Nat.le_trans hs.length_le h.1, fun x hx => h.2 x (hs.subset hx)⟩

end
/-! ## Words, once more -/

section
variable {R α β : Type}
theorem neB_d (a b : Bool) : N.neB a b = decide (¬ a = b) := by cases a <;> cases b <;> rfl

theorem eqB_d (a b : Bool) : N.eqB a b = decide (a = b) := by cases a <;> cases b <;> rfl

theorem not_d (p : Prop) [Decidable p] : N.not (decide p) = decide (¬ p) := by unfold N.not; by_cases h : p <;> simp [h]

theorem both_d (p q : Prop) [Decidable p] [Decidable q] : N.both (decide p) (decide q) = decide (p ∧ q) := by unfold N.both; by_cases h : p <;> by_cases h' : q <;> simp [h, h']

theorem not_b (b : Bool) : N.not b = !b := rfl

theorem cond_not (b : Bool) (x y : Option R) : N.cond (N.not b) x y = N.cond b y x := by cases b <;> rfl

theorem zip_all_eq [DecidableEq α] : ∀ {xs ys : List α}, xs.length = ys.length → ((List.zip xs ys).all fun p => decide (p.1 = p.2)) = decide (xs = ys)
  | [], [], _ => by simp
  | x :: xs, y :: ys, h => by
    simp only [List.zip_cons_cons, List.all_cons, zip_all_eq (xs := xs) (ys := ys) (by simpa using h)]
    by_cases h1 : x = y <;> by_cases h2 : xs = ys <;> simp [h1, h2]
  | [], _ :: _, h => by simp at h
  | _ :: _, [], h => by simp at h

end
end Go.Sh
set_option linter.unusedVariables false
set_option linter.unusedSimpArgs false
set_option synthInstance.maxSize 100000
set_option maxHeartbeats 1000000
namespace Go.Sh
open Go Data
namespace D
end D
end Go.Sh
set_option linter.unusedVariables false
set_option linter.unusedSimpArgs false
set_option synthInstance.maxSize 100000
set_option maxHeartbeats 1000000
namespace Go.Sh
open Go Data
namespace D
theorem spec_l1In_is (a b c : Int) : spec_l1In a b c = some (decide (b ≤ a ∧ a ≤ c)) := by
  unfold spec_l1In
  simp only [ge_d, le_d, cond_dec]
  by_cases h1 : b ≤ a <;> by_cases h2 : a ≤ c <;> simp [h1, h2]

theorem impl_InRange_is (a b c : Int) : impl_InRange a b c = some (decide (b ≤ a ∧ a ≤ c)) := by
  unfold impl_InRange
  simp only [ge_d, le_d, cond_dec]
  by_cases h1 : b ≤ a <;> by_cases h2 : a ≤ c <;> simp [h1, h2]

theorem rem_pos {a b : Int} (ha : 0 ≤ a) : N.rem a b = a % b := by unfold N.rem; exact Int.tmod_eq_emod_of_nonneg ha

theorem fits8 {α : Type} {xs ys : List α} (h : xs.length + ys.length ≤ 17592186044416) : N.fits xs ys 8 := by unfold N.fits; omega

end D
end Go.Sh
set_option linter.unusedVariables false
set_option linter.unusedSimpArgs false
set_option synthInstance.maxSize 100000
set_option maxHeartbeats 1000000
namespace Go.Sh
open Go Data
/-! ## Loops that look for something -/
theorem loop_find {α S R : Type} {step : S → Option (S ⊕ R)} (xs : List α) (emb : Nat → S) (p : α → Option R) (r0 : R)
    (hstep : ∀ (k : Nat) (hk : k < xs.length), step (emb k) = some (match p xs[k] with | some r => .inr r | none => .inl (emb (k + 1))))
    (hend : step (emb xs.length) = some (.inr r0)) : loopF step (emb 0) = some ((xs.findSome? p).getD r0) := by
  have key : ∀ (m k : Nat), k + m = xs.length → loopF step (emb k) = some (((xs.drop k).findSome? p).getD r0) := by
    intro m
    induction m with
    | zero =>
      intro k hk
      have hk' : k = xs.length := by omega
      subst hk'
      rw [loopF_inr hend, List.drop_length]; rfl
    | succ m ih =>
      intro k hk
      have hlt : k < xs.length := by omega
      rw [List.drop_eq_getElem_cons hlt, List.findSome?_cons]
      cases hp : p xs[k] with
      | none => rw [loopF_inl (s' := emb (k + 1)) (by rw [hstep k hlt, hp]), ih (k + 1) (by omega)]
      | some r => rw [loopF_inr (r := r) (by rw [hstep k hlt, hp])]; rfl
  simpa using key xs.length 0 (by omega)

theorem loop_any {α S : Type} {step : S → Option (S ⊕ Bool)} (xs : List α) (emb : Nat → S) (p : α → Bool)
    (hstep : ∀ (k : Nat) (hk : k < xs.length), step (emb k) = some (if p xs[k] = true then .inr true else .inl (emb (k + 1))))
    (hend : step (emb xs.length) = some (.inr false)) : loopF step (emb 0) = some (xs.any p) := by
  rw [loop_find xs emb (fun x => if p x = true then some true else none) false (fun k hk => by rw [hstep k hk]; split <;> rfl) hend]
  congr 1
  induction xs with
  | nil => rfl
  | cons x xs ih =>
    clear hstep hend
    induction (x :: xs) with
    | nil => rfl
    | cons y ys ih2 => rw [List.findSome?_cons, List.any_cons]; cases hp : p y <;> simp [ih2]

theorem loop_all {α S : Type} {step : S → Option (S ⊕ Bool)} (xs : List α) (emb : Nat → S) (p : α → Bool)
    (hstep : ∀ (k : Nat) (hk : k < xs.length), step (emb k) = some (if p xs[k] = true then .inl (emb (k + 1)) else .inr false))
    (hend : step (emb xs.length) = some (.inr true)) : loopF step (emb 0) = some (xs.all p) := by
  rw [loop_find xs emb (fun x => if p x = true then none else some false) true (fun k hk => by rw [hstep k hk]; split <;> rfl) hend]
  congr 1
  clear hstep hend
  induction xs with
  | nil => rfl
  | cons y ys ih2 => rw [List.findSome?_cons, List.all_cons]; cases hp : p y <;> simp [ih2]

/-- looking for a place -/
theorem loop_index {α S : Type} {step : S → Option (S ⊕ Int)} (xs : List α) (emb : Nat → S) (p : α → Bool)
    (hstep : ∀ (k : Nat) (hk : k < xs.length), step (emb k) = some (if p xs[k] = true then .inr (k : Int) else .inl (emb (k + 1))))
    (hend : step (emb xs.length) = some (.inr (-1))) : loopF step (emb 0) = some (if xs.any p = true then (xs.findIdx p : Int) else -1) := by
  have key : ∀ (m k : Nat), k + m = xs.length → loopF step (emb k) = some (if (xs.drop k).any p = true then ((k + (xs.drop k).findIdx p : Nat) : Int) else -1) := by
    intro m
    induction m with
    | zero =>
      intro k hk
      have hk' : k = xs.length := by omega
      subst hk'
      rw [loopF_inr hend, List.drop_length]; rfl
    | succ m ih =>
      intro k hk
      have hlt : k < xs.length := by omega
      rw [List.drop_eq_getElem_cons hlt, List.any_cons, List.findIdx_cons]
      cases hp : p xs[k] with
      | false =>
        rw [loopF_inl (s' := emb (k + 1)) (by rw [hstep k hlt, hp]; rfl), ih (k + 1) (by omega)]
        simp only [Bool.false_or, _root_.cond_false]
        split
        · congr 2; omega
        · rfl
      | true => rw [loopF_inr (r := (k : Int)) (by rw [hstep k hlt, hp]; rfl)]; simp
  simpa using key xs.length 0 (by omega)

namespace D
/-! ## Resources and answers -/
def resIntsP (r : Resource) : List Int := [r.1, r.2.2.1, r.2.2.2.1, r.2.2.2.2, (r.2.1.length : Int)] ++ r.2.1

theorem impl_ResourceInts_is {r : Resource} (h : ok r) : impl_ResourceInts r = some (resIntsP r) := by
  unfold impl_ResourceInts
  rw [nite_pos (fits8 (by have := h.2.1.1; simp; omega))]; rfl

theorem resInts_len {r : Resource} (h : ok r) : (resIntsP r).length ≤ 1048581 := by have := h.2.1.1; simp [resIntsP]; omega

/-! ## Counts -/

end D
end Go.Sh
set_option linter.unusedVariables false
set_option linter.unusedSimpArgs false
set_option synthInstance.maxSize 100000
set_option maxHeartbeats 1000000
namespace Go.Sh
open Go Data
theorem loop_eq2 {α S : Type} [DecidableEq α] {step : S → Option (S ⊕ Bool)} (xs ys : List α) (emb : Nat → S) (hl : xs.length = ys.length)
    (hstep : ∀ (k : Nat) (hk : k < xs.length) (hk' : k < ys.length), step (emb k) = some (if xs[k] = ys[k] then .inl (emb (k + 1)) else .inr false))
    (hend : step (emb xs.length) = some (.inr true)) : loopF step (emb 0) = some (decide (xs = ys)) := by
  rw [← zip_all_eq hl]
  refine loop_all (xs.zip ys) emb (fun p => decide (p.1 = p.2)) (fun k hk => ?_) ?_
  · have h1 : k < xs.length := by simp at hk; omega
    rw [hstep k h1 (by omega)]
    simp only [List.getElem_zip, decide_eq_true_eq]
  · rw [List.length_zip, ← hl, Nat.min_self]; exact hend

/-- collecting -/
theorem loop_flat {α β : Type} {step : List β × Int → Option ((List β × Int) ⊕ List β)} (xs : List α) (f : α → List β)
    (hstep : ∀ (k : Nat) (hk : k < xs.length), step ((xs.take k).flatMap f, (k : Int)) = some (.inl ((xs.take k).flatMap f ++ f xs[k], ((k + 1 : Nat) : Int))))
    (hend : step (xs.flatMap f, (xs.length : Int)) = some (.inr (xs.flatMap f))) : loopF step ([], 0) = some (xs.flatMap f) := by
  refine loop_upto (r := xs.flatMap f) xs.length (fun k (a : List β) => (a, (k : Int))) (fun k => (xs.take k).flatMap f) (fun k hk => ?_) ?_
  · rw [hstep k hk, List.take_succ_eq_append_getElem hk, List.flatMap_append]; simp
  · rw [List.take_length]; exact hend

theorem flat_len {α β : Type} {f : α → List β} {m : Nat} : ∀ (xs : List α), (∀ x ∈ xs, (f x).length ≤ m) → (xs.flatMap f).length ≤ xs.length * m
  | [], _ => by simp
  | x :: xs, h => by
    have h1 := flat_len xs fun y hy => h y (by simp [hy])
    have h2 := h x (by simp)
    simp only [List.flatMap_cons, List.length_append, List.length_cons, Nat.add_mul]; omega

theorem take_flat_len {α β : Type} {f : α → List β} {m k : Nat} {xs : List α} (h : ∀ x ∈ xs, (f x).length ≤ m) (hk : k ≤ xs.length) : ((xs.take k).flatMap f).length ≤ k * m := by
  have := flat_len (xs.take k) fun y hy => h y (List.mem_of_mem_take hy)
  simpa [Nat.min_eq_left hk] using this

theorem fitsN {α : Type} {xs ys : List α} {b : Nat} (h : xs.length + ys.length ≤ 100000000) (hb : b ≤ 1000000) : N.fits xs ys b := by
  unfold N.fits
  exact Nat.le_trans (Nat.mul_le_mul h hb) (by decide)

namespace D
theorem addr_eq (x y : Address) : N.both (N.eq x.1 y.1) (N.both (N.eq x.2.1 y.2.1) (N.eq x.2.2 y.2.2)) = decide (x = y) := by
  obtain ⟨a, b, c⟩ := x; obtain ⟨d, e, f⟩ := y
  simp only [eq_d, both_d, Prod.mk.injEq]

theorem eq_len {α : Type} [DecidableEq α] {x y : List α} {K : Option Bool} (h : x.length = y.length → K = some (decide (x = y))) : N.cond (N.ne (N.len x) (N.len y)) (some false) K = some (decide (x = y)) := by
  simp only [ne_d, len_d, cond_dec]
  split
  · rename_i h1
    have : ¬ x = y := fun e => h1 (by rw [e])
    simp [this]
  · exact h (by omega)

theorem slices_Equal_int_is {x y : List Int} (h : x.length ≤ 4611686018427387904) : slices_Equal_int x y = some (decide (x = y)) := by
  refine eq_len fun hl => loop_eq2 x y (fun k => (k : Int)) hl (fun k hk hk' => ?_) ?_
  · have h0 : (0 : Int) ≤ (k : Int) := by omega
    have h1 : (k : Int) < (x.length : Int) := by omega
    have h2 : (k : Int) < (y.length : Int) := by omega
    simp only [ite_if]; simp only [lt_d, len_d, cond_dec, h0, h1, h2, if_true, rd_at x k hk, rd_at y k hk', ne_d, next_id hk (by omega)]
    by_cases e : x[k] = y[k] <;> simp [e]
  · simp only [lt_d, len_d, cond_dec]; rw [if_neg (by omega)]

theorem slices_Equal_Address_is {x y : List Address} (h : x.length ≤ 4611686018427387904) : slices_Equal_Address x y = some (decide (x = y)) := by
  refine eq_len fun hl => loop_eq2 x y (fun k => (k : Int)) hl (fun k hk hk' => ?_) ?_
  · have h0 : (0 : Int) ≤ (k : Int) := by omega
    have h1 : (k : Int) < (x.length : Int) := by omega
    have h2 : (k : Int) < (y.length : Int) := by omega
    simp only [ite_if]; simp only [lt_d, len_d, cond_dec, h0, h1, h2, if_true, rd_at x k hk, rd_at y k hk', addr_eq, not_d, next_id hk (by omega)]
    by_cases e : x[k] = y[k] <;> simp [e]
  · simp only [lt_d, len_d, cond_dec]; rw [if_neg (by omega)]

/-! ### Captures, editions -/
theorem impl_EqualResources_is {x y : Resource} (h : ok x) : impl_EqualResources x y = some (decide (x = y)) := by
  unfold impl_EqualResources
  rw [slices_Equal_int_is (by have := h.2.1.1; omega), bind_some', addr_eq]
  obtain ⟨a, b, c⟩ := x; obtain ⟨a', b', c'⟩ := y
  simp only [eq_d, cond_dec, Prod.mk.injEq]
  by_cases e0 : a = a' <;> by_cases e1 : b = b' <;> by_cases e2 : c = c' <;> simp [e0, e1, e2]

theorem spec_EqualResources_is {x y : Resource} (h : ok x) : spec_EqualResources x y = some (decide (x = y)) := impl_EqualResources_is h

theorem impl_sameCapture_is {x y : Capture} (h : ok x) : impl_sameCapture x y = some (decide (x = y)) := by
  unfold impl_sameCapture
  rw [impl_EqualResources_is h.2.2, bind_some', addr_eq]
  obtain ⟨a, b, c⟩ := x; obtain ⟨a', b', c'⟩ := y
  simp only [eq_d, cond_dec, Prod.mk.injEq]
  by_cases e0 : a = a' <;> by_cases e1 : b = b' <;> by_cases e2 : c = c' <;> simp [e0, e1, e2]

theorem spec_l15Same_is {x y : Capture} (h : ok x) : spec_l15Same x y = some (decide (x = y)) := by
  unfold spec_l15Same
  rw [spec_EqualResources_is h.2.2, bind_some', addr_eq]
  obtain ⟨a, b, c⟩ := x; obtain ⟨a', b', c'⟩ := y
  simp only [eq_d, cond_dec, Prod.mk.injEq]
  by_cases e0 : a = a' <;> by_cases e1 : b = b' <;> by_cases e2 : c = c' <;> simp [e0, e1, e2]

theorem impl_EqualCaptures_is {x y : List Capture} (h : ok x) : impl_EqualCaptures x y = some (decide (x = y)) := by
  have e : slices_EqualFunc_Capture_impl_sameCapture x y = some (decide (x = y)) := by
    have hx := h.1
    refine eq_len fun hl => loop_eq2 x y (fun k => (k : Int)) hl (fun k hk hk' => ?_) ?_
    · have h0 : (0 : Int) ≤ (k : Int) := by omega
      have h1 : (k : Int) < (x.length : Int) := by omega
      have h2 : (k : Int) < (y.length : Int) := by omega
      simp only [ite_if]; simp only [lt_d, len_d, cond_dec, h0, h1, h2, if_true, rd_at x k hk, rd_at y k hk', impl_sameCapture_is (h.at hk), bind_some', not_d, next_id hk (by omega)]
      by_cases e : x[k] = y[k] <;> simp [e]
    · simp only [lt_d, len_d, cond_dec]; rw [if_neg (by omega)]
  unfold impl_EqualCaptures
  rw [e]; rfl

theorem impl_EqualEditions_is {x y : Edition} (h : ok x) : impl_EqualEditions x y = some (decide (x = y)) := by
  unfold impl_EqualEditions
  rw [impl_EqualCaptures_is h.1, bind_some', slices_Equal_Address_is (by have := h.2.2.2.1; omega), bind_some']
  obtain ⟨a, b, c, d⟩ := x; obtain ⟨a', b', c', d'⟩ := y
  simp only [eq_d, cond_dec, Prod.mk.injEq]
  by_cases e0 : a = a' <;> by_cases e1 : b = b' <;> by_cases e2 : c = c' <;> by_cases e3 : d = d' <;> simp [e0, e1, e2, e3]

end D
end Go.Sh
set_option linter.unusedVariables false
set_option linter.unusedSimpArgs false
set_option synthInstance.maxSize 100000
set_option maxHeartbeats 1000000
namespace Go.Sh
open Go Data
namespace D
theorem cut_take {α : Type} (l : List α) (k : Nat) : N.cut l 0 (k : Int) = l.take k := by simp [N.cut]

end D
end Go.Sh
set_option linter.unusedVariables false
set_option linter.unusedSimpArgs false
set_option synthInstance.maxSize 100000
set_option maxHeartbeats 1000000
namespace Go.Sh
open Go Data
namespace D
/-! ### Captures outside -/
theorem slices_Contains_Address_is {l : List Address} (h : l.length ≤ 4611686018427387904) (x : Address) : slices_Contains_Address l x = some (decide (x ∈ l)) := by
  unfold slices_Contains_Address
  have e : slices_Index_Address l x = some (if l.any (fun y => decide (x = y)) = true then (l.findIdx (fun y => decide (x = y)) : Int) else -1) := by
    refine loop_index l (fun k => (k : Int)) (fun y => decide (x = y)) (fun k hk => ?_) ?_
    · have h0 : (0 : Int) ≤ (k : Int) := by omega
      have h1 : (k : Int) < (l.length : Int) := by omega
      simp only [ite_if]; simp only [lt_d, len_d, cond_dec, h0, h1, if_true, rd_at l k hk, addr_eq, next_id hk (by omega), decide_eq_true_eq]
      split <;> rfl
    · simp only [lt_d, len_d, cond_dec]; rw [if_neg (by omega)]
  rw [e, bind_some', ge_d]
  congr 1
  by_cases hx : x ∈ l
  · have : l.any (fun y => decide (x = y)) = true := List.any_eq_true.2 ⟨x, hx, by simp⟩
    rw [if_pos this]; simp [hx]
  · have : ¬ l.any (fun y => decide (x = y)) = true := fun h => by
      obtain ⟨y, hy, e⟩ := List.any_eq_true.1 h
      simp only [decide_eq_true_eq] at e; subst e; exact hx hy
    rw [if_neg this]; simp [hx]

theorem spec_l9Has_is {l : List Address} (h : l.length ≤ 4611686018427387904) (x : Address) : spec_l9Has l x = some (decide (x ∈ l)) := by
  have e : l.any (fun y => decide (y = x)) = decide (x ∈ l) := by
    by_cases hx : x ∈ l
    · have : l.any (fun y => decide (y = x)) = true := List.any_eq_true.2 ⟨x, hx, by simp⟩
      simp [this, hx]
    · have : ¬ l.any (fun y => decide (y = x)) = true := fun h => by
        obtain ⟨y, hy, e⟩ := List.any_eq_true.1 h
        simp only [decide_eq_true_eq] at e; subst e; exact hx hy
      simp only [Bool.not_eq_true] at this
      simp [hx, this]
  rw [← e]
  refine loop_any l (fun k => (k : Int)) (fun y => decide (y = x)) (fun k hk => ?_) ?_
  · have h0 : (0 : Int) ≤ (k : Int) := by omega
    have h1 : (k : Int) < (l.length : Int) := by omega
    simp only [ite_if]; simp only [lt_d, len_d, cond_dec, h0, h1, if_true, rd_at l k hk, addr_eq, next_id hk (by omega), decide_eq_true_eq]
    split <;> rfl
  · simp only [lt_d, len_d, cond_dec]; rw [if_neg (by omega)]

theorem spec_l5Copy_is {r : Resource} (h : ok r) : spec_l5Copy r = some r := by
  unfold spec_l5Copy
  rw [nite_pos (fitsN (by have := h.2.1.1; simp; omega) (by omega))]; rfl

theorem spec_l15Copy_is {l : List Capture} (h : ok l) : spec_l15Copy l = some l := by
  have hl := h.1
  refine (loop_flat l (fun x => [x]) (fun k hk => ?_) ?_).trans (by simp)
  · have h0 : (0 : Int) ≤ (k : Int) := by omega
    have h1 : (k : Int) < (l.length : Int) := by omega
    have h2 := take_flat_len (f := fun x : Capture => [x]) (m := 1) (xs := l) (fun _ _ => by simp) (Nat.le_of_lt hk)
    simp only [ite_if]; simp only [lt_d, len_d, cond_dec, h0, h1, if_true, rd_at l k hk, next_id hk (by omega), spec_l5Copy_is (h.at hk).2.2, bind_some']
    rw [if_pos (fitsN (by show (List.flatMap (fun x : Capture => [x]) (l.take k)).length + 1 ≤ 100000000; omega) (by omega))]; rfl
  · simp only [lt_d, len_d, cond_dec]; rw [if_neg (by omega)]

def outsideP (l : List Capture) (hidden : List Address) : List Capture := l.flatMap fun c => if c.1 ∈ hidden then [] else [c]

theorem outside_ok {l : List Capture} (h : ok l) (hidden : List Address) : ok (outsideP l hidden) := by
  refine ⟨?_, fun x hx => ?_⟩
  · have := flat_len (f := fun c : Capture => if c.1 ∈ hidden then [] else [c]) (m := 1) l fun x _ => by split <;> simp
    have := h.1
    unfold outsideP; omega
  · obtain ⟨y, hy, hx⟩ := List.mem_flatMap.1 hx
    split at hx
    · cases hx
    · simp only [List.mem_singleton] at hx; subst hx; exact h.2 _ hy

theorem impl_outside_is {l : List Capture} {hidden : List Address} (h : ok l) (hh : ok hidden) : impl_outside l hidden = some (outsideP l hidden) := by
  have hl := h.1; have hl2 := hh.1
  refine loop_flat l (fun c => if c.1 ∈ hidden then [] else [c]) (fun k hk => ?_) ?_
  · have h0 : (0 : Int) ≤ (k : Int) := by omega
    have h1 : (k : Int) < (l.length : Int) := by omega
    have h2 := take_flat_len (f := fun c : Capture => if c.1 ∈ hidden then [] else [c]) (m := 1) (xs := l) (fun x _ => by split <;> simp) (Nat.le_of_lt hk)
    simp only [ite_if]; simp only [lt_d, len_d, cond_dec, h0, h1, if_true, rd_at l k hk, next_id hk (by omega), slices_Contains_Address_is (l := hidden) (by omega), bind_some', not_d]
    by_cases c : (l[k]).1 ∈ hidden
    · simp [c]
    · rw [if_pos (by simpa using c), if_pos (fitsN (by show (List.flatMap _ (l.take k)).length + 1 ≤ 100000000; omega) (by omega)), if_neg c]; rfl
  · simp only [lt_d, len_d, cond_dec]; rw [if_neg (by omega)]

theorem cut_one {α : Type} (l : List α) (k : Nat) (hk : k < l.length) : N.cut l (k : Int) ((k + 1 : Nat) : Int) = [l[k]] := by
  unfold N.cut
  simp only [Int.toNat_natCast]
  rw [List.take_succ_eq_append_getElem hk, List.drop_append_of_le_length (by simp; omega), List.drop_eq_nil_of_le (by simp; omega)]
  rfl

theorem spec_l23Without_is {l : List Capture} {hidden : List Address} (h : ok l) (hh : ok hidden) : spec_l23Without l hidden = some (outsideP l hidden) := by
  have hl := h.1; have hl2 := hh.1
  refine loop_flat l (fun c => if c.1 ∈ hidden then [] else [c]) (fun k hk => ?_) ?_
  · have h0 : (0 : Int) ≤ (k : Int) := by omega
    have h1 : (k : Int) < (l.length : Int) := by omega
    have h3 : (k : Int) ≤ ((k + 1 : Nat) : Int) := by omega
    have h4 : ((k + 1 : Nat) : Int) ≤ (l.length : Int) := by omega
    have h2 := take_flat_len (f := fun c : Capture => if c.1 ∈ hidden then [] else [c]) (m := 1) (xs := l) (fun x _ => by split <;> simp) (Nat.le_of_lt hk)
    have hc : ok [l[k]] := ⟨by simp, fun x hx => by simp only [List.mem_singleton] at hx; subst hx; exact h.at hk⟩
    simp only [ite_if]; simp only [lt_d, len_d, cond_dec, h0, h1, if_true, rd_at l k hk, next_id hk (by omega), h3, h4, cut_one l k hk, spec_l15Copy_is hc, spec_l9Has_is (l := hidden) (by omega), bind_some', not_d]
    by_cases c : (l[k]).1 ∈ hidden
    · simp [c]
    · rw [if_pos (by simpa using c), if_pos (fitsN (by show (List.flatMap _ (l.take k)).length + 1 ≤ 100000000; omega) (by omega)), if_neg c]; rfl
  · simp only [lt_d, len_d, cond_dec]; rw [if_neg (by omega)]

end D
end Go.Sh
set_option linter.unusedVariables false
set_option linter.unusedSimpArgs false
set_option synthInstance.maxSize 100000
set_option maxHeartbeats 1000000
namespace Go.Sh
open Go Data
namespace D
end D
end Go.Sh
set_option linter.unusedVariables false
set_option linter.unusedSimpArgs false
set_option synthInstance.maxSize 100000
set_option maxHeartbeats 1000000
namespace Go.Sh
open Go Data
namespace D
end D
end Go.Sh
set_option linter.unusedVariables false
set_option linter.unusedSimpArgs false
set_option synthInstance.maxSize 100000
set_option maxHeartbeats 1000000
namespace Go.Sh
open Go Data
namespace D
/-! ### Ranges of lists -/
theorem impl_allIn_is {l : List Int} (h : l.length ≤ 4611686018427387904) (a b : Int) : impl_allIn l a b = some (l.all fun x => decide (a ≤ x ∧ x ≤ b)) := by
  refine loop_all l (fun k => ((k : Nat) : Int)) (fun x => decide (a ≤ x ∧ x ≤ b)) (fun k hk => ?_) ?_
  · have h0 : (0 : Int) ≤ (k : Int) := by omega
    have h1 : (k : Int) < (l.length : Int) := by omega
    simp only [ite_if]; simp only [lt_d, len_d, cond_dec, h0, h1, if_true, rd_at l k hk, impl_InRange_is, bind_some', not_d, next_id hk (by omega), decide_eq_true_eq]
    by_cases c : a ≤ l[k] ∧ l[k] ≤ b
    · rw [if_neg (by simpa using c), if_pos c]
    · rw [if_pos c, if_neg c]
  · simp only [lt_d, len_d, cond_dec]; rw [if_neg (by omega)]

theorem spec_l5Bytes_is {l : List Int} (h : l.length ≤ 4611686018427387904) : spec_l5Bytes l = some (l.all fun x => decide (0 ≤ x ∧ x ≤ 255)) := by
  refine loop_all l (fun k => ((k : Nat) : Int)) (fun x => decide (0 ≤ x ∧ x ≤ 255)) (fun k hk => ?_) ?_
  · have h0 : (0 : Int) ≤ (k : Int) := by omega
    have h1 : (k : Int) < (l.length : Int) := by omega
    simp only [ite_if]; simp only [lt_d, len_d, cond_dec, h0, h1, if_true, rd_at l k hk, spec_l1In_is, bind_some', not_d, next_id hk (by omega), decide_eq_true_eq]
    by_cases c : 0 ≤ l[k] ∧ l[k] ≤ 255
    · rw [if_neg (by simpa using c), if_pos c]
    · rw [if_pos c, if_neg c]
  · simp only [lt_d, len_d, cond_dec]; rw [if_neg (by omega)]

/-! ### Addresses, resources, captures -/
def addrP (a : Address) : Bool := decide (1 ≤ a.1 ∧ a.1 ≤ 9) && decide (0 ≤ a.2.1 ∧ a.2.1 ≤ 99) && decide (0 ≤ a.2.2 ∧ a.2.2 ≤ 99)

theorem spec_IsAddress_is (a : Address) : spec_IsAddress a = some (addrP a) := by
  unfold spec_IsAddress addrP
  simp only [spec_l1In_is, bind_some']
  cases decide (1 ≤ a.1 ∧ a.1 ≤ 9) <;> cases decide (0 ≤ a.2.1 ∧ a.2.1 ≤ 99) <;> simp

theorem impl_IsAddress_is (a : Address) : impl_IsAddress a = some (addrP a) := by
  unfold impl_IsAddress addrP
  simp only [impl_InRange_is, bind_some']
  cases decide (1 ≤ a.1 ∧ a.1 ≤ 9) <;> cases decide (0 ≤ a.2.1 ∧ a.2.1 ≤ 99) <;> simp

def bytesP (l : List Int) : Bool := l.all fun x => decide (0 ≤ x ∧ x ≤ 255)

def resP (r : Resource) : Bool :=
  if r.1 = 1 ∨ r.1 = 2 then decide (r.2.1.length ≤ 6) && bytesP r.2.1 && decide (r.2.2 = (0, 0, 0))
  else if r.1 = 3 then decide (r.2.1 = []) && addrP r.2.2
  else if r.1 = 4 then decide (r.2.1 = []) && decide (r.2.2 = (0, 0, 0)) else false

theorem zero_addr (a : Address) : N.both (N.eq a.1 0) (N.both (N.eq a.2.1 0) (N.eq a.2.2 0)) = decide (a = (0, 0, 0)) := addr_eq a (0, 0, 0)

theorem len_zero (l : List Int) : N.eq (N.len l) 0 = decide (l = []) := by
  rw [eq_d, len_d]; cases l <;> simp; omega

theorem impl_IsResource_is {r : Resource} (h : r.2.1.length ≤ 4611686018427387904) : impl_IsResource r = some (resP r) := by
  unfold impl_IsResource resP bytesP
  simp only [impl_allIn_is h, impl_IsAddress_is, bind_some', zero_addr, len_zero]
  simp only [eq_d, le_d, len_d, cond_dec]
  by_cases c1 : r.1 = 1
  · simp only [c1, if_true, true_or]
    by_cases c5 : r.2.1.length ≤ 6
    · rw [if_pos (by omega)]
      cases r.2.1.all fun x => decide (0 ≤ x ∧ x ≤ 255) <;> simp [c5]
    · rw [if_neg (by omega)]; simp [c5]
  · rw [if_neg c1]
    by_cases c2 : r.1 = 2
    · simp only [c2, if_true, or_true]
      by_cases c5 : r.2.1.length ≤ 6
      · rw [if_pos (by omega)]
        cases r.2.1.all fun x => decide (0 ≤ x ∧ x ≤ 255) <;> simp [c5]
      · rw [if_neg (by omega)]; simp [c5]
    · simp only [c1, c2, if_false, or_self]
      by_cases c3 : r.1 = 3
      · simp only [c3, if_true]
        by_cases c6 : r.2.1 = [] <;> simp [c6]
      · simp only [c3, if_false]
        by_cases c4 : r.1 = 4
        · simp only [c4, if_true]
          by_cases c6 : r.2.1 = [] <;> simp [c6]
        · simp only [c4, if_false]

theorem spec_IsResource_is {r : Resource} (h : r.2.1.length ≤ 4611686018427387904) : spec_IsResource r = some (resP r) := by
  unfold spec_IsResource resP bytesP
  simp only [spec_l5Bytes_is h, spec_IsAddress_is, spec_l1In_is, bind_some', zero_addr, len_zero]
  simp only [eq_d, ne_d, gt_d, len_d, cond_not, cond_dec]
  have e6 : r.2.1 = [] → (r.2.1.all fun x => decide (0 ≤ x ∧ x ≤ 255)) = true := fun e => by rw [e]; rfl
  have e7 : r.2.1 = [] → r.2.1.length = 0 := fun e => by rw [e]; rfl
  have e8 : r.2.1.length > 6 → ¬ r.2.1 = [] := fun e h => by rw [h] at e; simp at e
  by_cases c0 : 1 ≤ r.1 ∧ r.1 ≤ 4
  · rw [if_pos c0]
    rcases (show r.1 = 1 ∨ r.1 = 2 ∨ r.1 = 3 ∨ r.1 = 4 by omega) with c | c | c | c
    · cases hc : r.2.1.all fun x => decide (0 ≤ x ∧ x ≤ 255)
      · simp [c]
      · by_cases c5 : r.2.1.length ≤ 6
        · rw [cond_true, if_neg (by omega)]; by_cases hz : r.2.2 = (0, 0, 0) <;> simp [c, c5, hz]
        · rw [cond_true, if_pos (by omega)]; simp [c, c5]
    · cases hc : r.2.1.all fun x => decide (0 ≤ x ∧ x ≤ 255)
      · simp [c]
      · by_cases c5 : r.2.1.length ≤ 6
        · rw [cond_true, if_neg (by omega)]; by_cases hz : r.2.2 = (0, 0, 0) <;> simp [c, c5, hz]
        · rw [cond_true, if_pos (by omega)]; simp [c, c5]
    · by_cases c6 : r.2.1 = []
      · rw [e6 c6, cond_true, if_neg (by rw [e7 c6]; omega)]; simp [c, c6]
        cases addrP r.2.2 <;> simp
      · cases hc : r.2.1.all fun x => decide (0 ≤ x ∧ x ≤ 255)
        · simp [c, c6]
        · by_cases c5 : r.2.1.length ≤ 6
          · rw [cond_true, if_neg (by omega)]; simp [c, c6]
            cases addrP r.2.2 <;> simp
          · rw [cond_true, if_pos (by omega)]; simp [c, c6]
    · by_cases c6 : r.2.1 = []
      · rw [e6 c6, cond_true, if_neg (by rw [e7 c6]; omega)]; by_cases hz : r.2.2 = (0, 0, 0) <;> simp [c, c6, hz]
      · cases hc : r.2.1.all fun x => decide (0 ≤ x ∧ x ≤ 255)
        · simp [c, c6]
        · by_cases c5 : r.2.1.length ≤ 6
          · rw [cond_true, if_neg (by omega)]; simp [c, c6]
          · rw [cond_true, if_pos (by omega)]; simp [c, c6]
  · rw [if_neg c0]
    rw [if_neg (by omega), if_neg (by omega), if_neg (by omega)]

def capP (c : Capture) : Bool := addrP c.1 && decide (0 ≤ c.2.1 ∧ c.2.1 ≤ 2000) && resP c.2.2

def areCapturesP (l : List Capture) : Bool := decide (l.length ≤ 20) && l.all capP

theorem impl_AreCaptures_is {l : List Capture} (h : ok l) : impl_AreCaptures l = some (areCapturesP l) := by
  have hl := h.1
  unfold impl_AreCaptures slices_ContainsFunc_Capture_impl_AreCaptures_1 areCapturesP
  have e1 : ∀ c : Capture, ok c → impl_AreCaptures_1 c = some (!capP c) := fun c hc => by
    unfold impl_AreCaptures_1 capP
    simp only [impl_IsAddress_is, impl_InRange_is, impl_IsResource_is (r := c.2.2) (by have := hc.2.2.2.1.1; omega), bind_some', cond_not, not_b]
    cases addrP c.1 <;> cases decide (0 ≤ c.2.1 ∧ c.2.1 ≤ 2000) <;> simp
  have e : slices_IndexFunc_Capture_impl_AreCaptures_1 l = some (if l.any (fun c => !capP c) = true then (l.findIdx (fun c => !capP c) : Int) else -1) := by
    refine loop_index l (fun k => (k : Int)) (fun c => !capP c) (fun k hk => ?_) ?_
    · have h0 : (0 : Int) ≤ (k : Int) := by omega
      have h1 : (k : Int) < (l.length : Int) := by omega
      simp only [ite_if]; simp only [lt_d, len_d, cond_dec, h0, h1, if_true, rd_at l k hk, e1 _ (h.at hk), bind_some', next_id hk (by omega)]
      simp only [cond_if]; split <;> rfl
    · simp only [lt_d, len_d, cond_dec]; rw [if_neg (by omega)]
  rw [e]
  simp only [bind_some', le_d, ge_d, len_d, cond_dec, not_b]
  have e2 : l.all capP = !l.any (fun c => !capP c) := by rw [List.not_any_eq_all_not]; simp
  by_cases h1 : l.length ≤ 20
  · rw [if_pos (by omega), e2]
    cases h2 : l.any fun c => !capP c
    · simp [h1]
    · rw [if_pos rfl]; simp
  · rw [if_neg (by omega)]; simp [h1]

theorem spec_AreCaptures_is {l : List Capture} (h : ok l) : spec_AreCaptures l = some (areCapturesP l) := by
  have hl := h.1
  refine (loop_find l (fun k => ((k : Nat) : Int)) (fun x => if capP x = true then none else some false) (decide (l.length ≤ 20)) (fun k hk => ?_) ?_).trans ?_
  · have h0 : (0 : Int) ≤ (k : Int) := by omega
    have h1 : (k : Int) < (l.length : Int) := by omega
    have hr := (h.at hk).2.2.2.1.1
    simp only [ite_if]; simp only [lt_d, len_d, cond_dec, h0, h1, if_true, rd_at l k hk, spec_IsAddress_is, spec_l1In_is, spec_IsResource_is (r := (l[k]).2.2) (by omega), bind_some', next_id hk (by omega), cond_not]
    unfold capP
    by_cases c2 : 0 ≤ (l[k]).2.1 ∧ (l[k]).2.1 ≤ 2000 <;> cases addrP (l[k]).1 <;> cases resP (l[k]).2.2 <;> simp [c2]
  · simp only [lt_d, len_d, cond_dec]; rw [if_neg (by omega)]
    congr 2
    simp only [le_d]
    by_cases h1 : l.length ≤ 20 <;> simp [h1] <;> omega
  · unfold areCapturesP
    congr 1
    generalize decide (l.length ≤ 20) = q
    clear h hl
    induction l with
    | nil => simp
    | cons y ys ih2 =>
      rw [List.findSome?_cons, List.all_cons]
      cases hb : capP y
      · simp
      · simpa using ih2

end D
end Go.Sh
set_option linter.unusedVariables false
set_option linter.unusedSimpArgs false
set_option synthInstance.maxSize 100000
set_option maxHeartbeats 1000000
namespace Go.Sh
open Go Data
theorem find_all {α : Type} (xs : List α) (p : α → Bool) (q : Bool) : ((xs.findSome? fun x => if p x = true then none else some false).getD q) = (xs.all p && q) := by
  induction xs with
  | nil => simp
  | cons y ys ih =>
    rw [List.findSome?_cons, List.all_cons]
    cases hb : p y
    · simp
    · simpa using ih

namespace D
theorem impl_hasCapture_is {l : List Capture} (h : ok l) (x : Capture) : impl_hasCapture l x = some (decide (x ∈ l)) := by
  have hl := h.1
  have e : slices_IndexFunc_Capture_impl_hasCapture_1 l x = some (if l.any (fun y => decide (y = x)) = true then (l.findIdx (fun y => decide (y = x)) : Int) else -1) := by
    refine loop_index l (fun k => (k : Int)) (fun y => decide (y = x)) (fun k hk => ?_) ?_
    · have h0 : (0 : Int) ≤ (k : Int) := by omega
      have h1 : (k : Int) < (l.length : Int) := by omega
      simp only [ite_if]; simp only [lt_d, len_d, cond_dec, h0, h1, if_true, rd_at l k hk, impl_hasCapture_1, impl_sameCapture_is (h.at hk), bind_some', next_id hk (by omega), decide_eq_true_eq]
      split <;> rfl
    · simp only [lt_d, len_d, cond_dec]; rw [if_neg (by omega)]
  unfold impl_hasCapture slices_ContainsFunc_Capture_impl_hasCapture_1
  rw [e, bind_some', ge_d, bind_some']
  congr 1
  by_cases hx : x ∈ l
  · have : l.any (fun y => decide (y = x)) = true := List.any_eq_true.2 ⟨x, hx, by simp⟩
    rw [if_pos this]; simp [hx]
  · have : ¬ l.any (fun y => decide (y = x)) = true := fun h => by
      obtain ⟨y, hy, e⟩ := List.any_eq_true.1 h
      simp only [decide_eq_true_eq] at e; subst e; exact hx hy
    rw [if_neg this]; simp [hx]

/-- a capture of an edition, behind others -/
def edAt (e : Edition) (k : Nat) : Bool := match e.1[k]? with
  | some c => decide (e.2.1 ≤ c.2.1 ∧ c.2.1 ≤ e.2.2.1) && !decide (c.1 ∈ e.2.2.2) && !decide (c ∈ e.1.take k)
  | none => true

def editionP (e : Edition) : Bool := areCapturesP e.1 && decide (0 ≤ e.2.1 ∧ e.2.1 ≤ e.2.2.1 ∧ e.2.2.1 ≤ 2000) && (List.range e.1.length).all (edAt e)

theorem take_ok {α : Type} [Data α] {l : List α} (h : ok l) (k : Nat) : ok (l.take k) := h.sub (List.take_sublist k l)

theorem impl_IsEdition_is {e : Edition} (h : ok e) : impl_IsEdition e = some (editionP e) := by
  have hl := h.1.1; have hl2 := h.2.2.2.1
  unfold impl_IsEdition editionP
  rw [impl_AreCaptures_is h.1, impl_InRange_is, bind_some', bind_some', cond_not, not_d, gt_d, cond_dec, cond_dec]
  cases areCapturesP e.1 with
  | false => simp
  | true =>
    rw [cond_true]
    by_cases c1 : 0 ≤ e.2.1 ∧ e.2.1 ≤ e.2.2.1
    · rw [if_neg (by simpa using c1)]
      by_cases c2 : e.2.2.1 ≤ 2000
      · rw [if_neg (by omega)]
        have c3 : 0 ≤ e.2.1 ∧ e.2.1 ≤ e.2.2.1 ∧ e.2.2.1 ≤ 2000 := by omega
        simp only [c3, decide_true, Bool.true_and, and_self]
        have hr : (List.range e.1.length).length = e.1.length := List.length_range
        refine loop_all (List.range e.1.length) (fun k => ((k : Nat) : Int)) (edAt e) (fun k hk => ?_) ?_
        · rw [hr] at hk
          have h0 : (0 : Int) ≤ (k : Int) := by omega
          have h1 : (k : Int) < (e.1.length : Int) := by omega
          have h2 : (k : Int) ≤ (e.1.length : Int) := by omega
          rw [List.getElem_range]
          simp only [ite_if]; simp only [lt_d, len_d, cond_dec, h0, h1, h2, if_true, rd_at e.1 k hk, impl_InRange_is, slices_Contains_Address_is (l := e.2.2.2) (by omega), cut_take, impl_hasCapture_is (take_ok h.1 k), bind_some', not_d, next_id hk (by omega)]
          simp only [edAt, List.getElem?_eq_getElem hk]
          by_cases d1 : e.2.1 ≤ (e.1[k]).2.1 ∧ (e.1[k]).2.1 ≤ e.2.2.1
          · rw [if_neg (by simpa using d1)]
            by_cases d2 : (e.1[k]).1 ∈ e.2.2.2 <;> by_cases d3 : e.1[k] ∈ e.1.take k <;> simp [d1, d2, d3]
          · rw [if_pos d1]; simp only [d1, decide_false, Bool.false_and]; rfl
        · rw [hr]; simp only [lt_d, len_d, cond_dec]; rw [if_neg (by omega)]
      · rw [if_pos (by omega)]
        have c3 : ¬ (0 ≤ e.2.1 ∧ e.2.1 ≤ e.2.2.1 ∧ e.2.2.1 ≤ 2000) := by omega
        simp only [c3, decide_false, Bool.and_false, Bool.false_and]
    · rw [if_pos c1]
      have c3 : ¬ (0 ≤ e.2.1 ∧ e.2.1 ≤ e.2.2.1 ∧ e.2.2.1 ≤ 2000) := by omega
      simp only [c3, decide_false, Bool.and_false, Bool.false_and]

end D
end Go.Sh
set_option linter.unusedVariables false
set_option linter.unusedSimpArgs false
set_option synthInstance.maxSize 100000
set_option maxHeartbeats 1000000
namespace Go.Sh
open Go Data
theorem loop_flat' {α β R : Type} {step : List β × Int → Option ((List β × Int) ⊕ R)} (xs : List α) (f : α → List β) (r : R)
    (hstep : ∀ (k : Nat) (hk : k < xs.length), step ((xs.take k).flatMap f, (k : Int)) = some (.inl ((xs.take k).flatMap f ++ f xs[k], ((k + 1 : Nat) : Int))))
    (hend : step (xs.flatMap f, (xs.length : Int)) = some (.inr r)) : loopF step ([], 0) = some r := by
  refine loop_upto (r := r) xs.length (fun k (a : List β) => (a, (k : Int))) (fun k => (xs.take k).flatMap f) (fun k hk => ?_) ?_
  · rw [hstep k hk, List.take_succ_eq_append_getElem hk, List.flatMap_append]; simp
  · rw [List.take_length]; exact hend

theorem nilc_same {α : Type} {x : List α} {y : Option (List α)} (h : y = some x) : N.nilc (N.isE x) (some []) y = some x := by
  unfold N.nilc
  subst h
  cases x with
  | nil => simp [N.isE]
  | cons a x => simp [N.isE]

namespace D
/-! ## Copies -/
theorem slices_Clone_int_is {l : List Int} (h : l.length ≤ 100000000) : slices_Clone_int l = some l := by
  unfold slices_Clone_int
  refine nilc_same ?_
  rw [nite_pos (fitsN (by simpa using h) (by omega))]; simp [N.app]

theorem impl_copyResource_is {r : Resource} (h : ok r) : impl_copyResource r = some (r.1, r.2.1, r.2.2.1, r.2.2.2.1, r.2.2.2.2) := by
  have := h.2.1.1
  unfold impl_copyResource
  rw [slices_Clone_int_is (by omega)]; rfl

theorem impl_copyCaptures_is {l : List Capture} (h : ok l) : impl_copyCaptures l = some l := by
  have hl := h.1
  refine (loop_flat l (fun c => [c]) (fun k hk => ?_) ?_).trans (by simp)
  · have h0 : (0 : Int) ≤ (k : Int) := by omega
    have h1 : (k : Int) < (l.length : Int) := by omega
    have h2 := take_flat_len (f := fun c : Capture => [c]) (m := 1) (xs := l) (fun x _ => by simp) (Nat.le_of_lt hk)
    simp only [ite_if]; simp only [lt_d, len_d, cond_dec, h0, h1, if_true, rd_at l k hk, next_id hk (by omega), impl_copyResource_is (h.at hk).2.2, bind_some']
    rw [if_pos (fitsN (by show (List.flatMap _ (l.take k)).length + 1 ≤ 100000000; omega) (by omega))]; rfl
  · simp only [lt_d, len_d, cond_dec]; rw [if_neg (by omega)]

end D
end Go.Sh
set_option linter.unusedVariables false
set_option linter.unusedSimpArgs false
set_option synthInstance.maxSize 100000
set_option maxHeartbeats 1000000
namespace Go.Sh
open Go Data
/-! ## What is drawn: it comes back, and keeps its bounds -/
def Gets {α : Type} (P : α → Prop) (r : Option α) : Prop := ∃ x, r = some x ∧ P x

section
variable {α β S R : Type} {P : α → Prop} {Q : R → Prop}
theorem Gets.pure {x : R} (h : Q x) : Gets Q (some x) := ⟨x, rfl, h⟩

theorem Gets.bind {x : Option α} {f : α → Option R} (h : Gets P x) (hf : ∀ a, P a → Gets Q (f a)) : Gets Q (N.bind x f) := by
  obtain ⟨a, rfl, ha⟩ := h; exact hf a ha

theorem Gets.cond {b : Bool} {x y : Option R} (h1 : b = true → Gets Q x) (h2 : b = false → Gets Q y) : Gets Q (N.cond b x y) := by
  unfold N.cond; cases b
  · exact h2 rfl
  · exact h1 rfl

theorem Gets.ite {c : Prop} [Decidable c] {x y : Option R} (hc : c) (h : Gets Q x) : Gets Q (N.ite c x y) := by rw [nite_pos hc]; exact h

theorem Gets.nite {c : Prop} [Decidable c] {x y : Option R} (hc : ¬ c) (h : Gets Q y) : Gets Q (N.ite c x y) := by rw [nite_neg hc]; exact h

theorem Gets.mono {Q' : R → Prop} {x : Option R} (h : Gets Q x) (hq : ∀ a, Q a → Q' a) : Gets Q' x := by
  obtain ⟨a, e, ha⟩ := h; exact ⟨a, e, hq a ha⟩

theorem Gets.loop {step : S → Option (S ⊕ R)} (I : S → Prop) (m : S → Nat)
    (hs : ∀ s, I s → Gets (fun r => match r with | .inl s' => I s' ∧ m s' < m s | .inr r => Q r) (step s)) (s : S) (h : I s) : Gets Q (loopF step s) := by
  generalize hn : m s = n
  induction n using Nat.strongRecOn generalizing s with
  | ind n ih =>
    obtain ⟨r, e, hr⟩ := hs s h
    cases r with
    | inl s' => rw [loopF_inl e]; exact ih (m s') (by rw [← hn]; exact hr.2) s' hr.1 rfl
    | inr r => exact ⟨r, loopF_inr e, hr⟩

end
theorem wrap_in (n : Int) : -9223372036854775808 ≤ IntKind.i64.wrap n ∧ IntKind.i64.wrap n < 9223372036854775808 := by
  have e1 : ((2 : Int) ^ IntKind.i64.bits) = 18446744073709551616 := by decide
  have e2 : ((2 : Int) ^ (IntKind.i64.bits - 1)) = 9223372036854775808 := by decide
  have e3 : IntKind.i64.signed = true := rfl
  unfold IntKind.wrap
  rw [e1, e2, e3]
  simp only [Bool.true_and, decide_eq_true_eq]
  split <;> omega

theorem ok_add (a b : Int) : ok (N.add .i64 a b) := wrap_in _

theorem ok_num {x : Int} (h1 : -9223372036854775808 ≤ x) (h2 : x < 9223372036854775808) : ok x := ⟨h1, h2⟩

theorem ok_below {x n : Int} (h : 0 ≤ x ∧ x < n) (hn : n ≤ 1000000000) : ok x := ⟨by omega, by omega⟩

theorem and_255 (a : Int) : 0 ≤ N.and .i64 a 255 ∧ N.and .i64 a 255 ≤ 255 := by
  have h : (BitVec.ofInt 64 a &&& BitVec.ofInt 64 255).toNat ≤ 255 := by
    rw [BitVec.toNat_and]; exact Nat.and_le_right
  have e : N.and .i64 a 255 = (((BitVec.ofInt 64 a &&& BitVec.ofInt 64 255).toNat : Nat) : Int) := by
    show IntKind.i64.wrap _ = _
    exact wrap_id (by show _ ≤ (((BitVec.ofInt 64 a &&& BitVec.ofInt 64 255).toNat : Nat) : Int); omega) (by show (((BitVec.ofInt 64 a &&& BitVec.ofInt 64 255).toNat : Nat) : Int) < _; omega)
  rw [e]; omega

def few {α : Type} [Data α] (n : Nat) (xs : List α) : Prop := xs.length ≤ n ∧ ∀ x ∈ xs, ok x

theorem few.ok {α : Type} [Data α] {n : Nat} {xs : List α} (h : few n xs) (hn : n ≤ 1048576) : ok xs := ⟨Nat.le_trans h.1 hn, h.2⟩

theorem few.app {α : Type} [Data α] {n m : Nat} {xs : List α} {x : α} (h : few n xs) (hx : Data.ok x) (hm : n + 1 ≤ m) : few m (N.app xs [x]) :=
  ⟨by have := h.1; simp [N.app]; omega, fun y hy => by
    rcases List.mem_append.1 hy with hy | hy
    · exact h.2 y hy
    · simp at hy; subst hy; exact hx⟩

theorem few.rd {α : Type} [Data α] {n : Nat} {xs : List α} {i : Int} {d : α} (h : few n xs) (hd : Data.ok d) : Data.ok (N.rd xs i d) := by
  unfold N.rd
  rw [List.getD_eq_getElem?_getD]
  cases e : xs[i.toNat]? with
  | none => exact hd
  | some x => exact h.2 x (List.mem_of_getElem? e)

theorem few.nil {α : Type} [Data α] {n : Nat} : few n ([] : List α) := ⟨by simp, fun _ h => by cases h⟩

/-- count-down loops that add one element each -/
theorem Gets.fill {α C : Type} [Data α] {step : List α × Int × C → Option ((List α × Int × C) ⊕ (List α × C))} {K : C → Prop} {m : Nat} (hm : m ≤ 1000)
    (hs : ∀ xs n c, K c → 0 < n → n ≤ 1000 → few m xs → Gets (fun r => ∃ x c', r = .inl (N.app xs [x], N.sub .i64 n 1, c') ∧ ok x ∧ K c') (step (xs, n, c)))
    (he : ∀ xs n c, n ≤ 0 → step (xs, n, c) = some (.inr (xs, c))) {n : Int} {c : C} (hn0 : 0 ≤ n) (hn : n ≤ m) (hc : K c) :
    Gets (fun r => few m r.1 ∧ K r.2) (loopF step ([], n, c)) := by
  refine Gets.loop (I := fun s => (s.1.length : Int) + s.2.1 ≤ m ∧ 0 ≤ s.2.1 ∧ (∀ x ∈ s.1, ok x) ∧ K s.2.2) (m := fun s => s.2.1.toNat) (fun s h => ?_) _ ⟨by simpa using hn, hn0, fun _ h => (by cases h), hc⟩
  obtain ⟨xs, n, c⟩ := s
  obtain ⟨h1, h2, h3, h4⟩ := h
  simp only at h1 h2 h3 h4
  by_cases hn : 0 < n
  · obtain ⟨r, e, x, c', rfl, hx, hk⟩ := hs xs n c h4 hn (by omega) ⟨by omega, h3⟩
    refine ⟨_, e, ?_⟩
    have e1 : N.sub .i64 n 1 = n - 1 := sub_id (by omega) (by omega)
    simp only [e1]
    refine ⟨⟨by simp [N.app]; omega, by omega, ?_, hk⟩, by omega⟩
    exact (few.app (n := xs.length) ⟨Nat.le_refl _, h3⟩ hx (Nat.le_refl _)).2
  · exact ⟨_, he xs n c (by omega), ⟨by simp only; omega, h3⟩, h4⟩

namespace D
/-! ## The source of bytes -/
def curOk (c : l1Cur) : Prop := 0 ≤ c.2.1 ∧ c.2.1 ≤ (c.1.length : Int) ∧ c.1.length ≤ 1048576

theorem spec_l1New_is {x : List Int} (h : x.length ≤ 1048576) : Gets curOk (spec_l1New x) := by
  refine Gets.loop (I := fun s => 0 ≤ s.2) (m := fun s => x.length - s.2.toNat) (fun s hs => ?_) _ (by show (0 : Int) ≤ 0; omega)
  obtain ⟨a, i⟩ := s
  simp only at hs
  refine Gets.cond (fun h1 => Gets.cond (fun h2 => Gets.ite hs (Gets.ite ?_ (Gets.pure ?_))) fun _ => Gets.pure ⟨by simp only; omega, by simp only; omega, h⟩) fun _ => Gets.pure ⟨by simp only; omega, by simp only; omega, h⟩
  · simpa [N.lt] using h1
  · simp only [lt_d, len_d, decide_eq_true_eq] at h1
    have e : N.add .i64 i 1 = i + 1 := add_id (by omega) (by omega)
    simp only [e]; omega

theorem spec_l1Byte_is {c : l1Cur} (h : curOk c) : Gets (fun r => (0 ≤ r.1 ∧ r.1 ≤ 255) ∧ curOk r.2) (spec_l1Byte c) := by
  obtain ⟨xs, i, s⟩ := c
  obtain ⟨h1, h2, h3⟩ := h
  simp only at h1 h2 h3
  refine Gets.cond (fun h4 => Gets.ite h1 (Gets.ite ?_ (Gets.pure ⟨and_255 _, ?_⟩))) fun _ => Gets.pure ⟨and_255 _, h1, h2, h3⟩
  · simpa [N.lt] using h4
  · simp only [lt_d, len_d, decide_eq_true_eq] at h4
    have e : N.add .i64 i 1 = i + 1 := add_id (by omega) (by omega)
    refine ⟨?_, ?_, h3⟩ <;> simp only [e] <;> omega

theorem spec_l1Below_is {c : l1Cur} (h : curOk c) {n : Int} (h0 : 0 < n) : Gets (fun r => (0 ≤ r.1 ∧ r.1 < n) ∧ curOk r.2) (spec_l1Below c n) := by
  refine Gets.cond (fun h1 => ?_) fun _ => Gets.cond (fun _ => ?_) fun _ => ?_
  · simp only [le_d, decide_eq_true_eq] at h1; omega
  · refine Gets.bind (spec_l1Byte_is h) fun r ⟨h1, h2⟩ => Gets.nite (by omega) (Gets.pure ⟨?_, h2⟩)
    simp only [rem_pos h1.1]; exact ⟨Int.emod_nonneg _ (by omega), Int.emod_lt_of_pos _ h0⟩
  · refine Gets.bind (spec_l1Byte_is h) fun r ⟨h1, h2⟩ => Gets.bind (spec_l1Byte_is h2) fun r3 ⟨h3, h4⟩ => Gets.bind (spec_l1Byte_is h4) fun r4 ⟨h5, h6⟩ => Gets.nite (by omega) (Gets.pure ⟨?_, h6⟩)
    have e1 : N.mul .i64 r.1 65536 = r.1 * 65536 := mul_id (by omega) (by omega)
    have e2 : N.mul .i64 r3.1 256 = r3.1 * 256 := mul_id (by omega) (by omega)
    have e3 : N.add .i64 (r.1 * 65536) (r3.1 * 256) = r.1 * 65536 + r3.1 * 256 := add_id (by omega) (by omega)
    have e4 : N.add .i64 (r.1 * 65536 + r3.1 * 256) r4.1 = r.1 * 65536 + r3.1 * 256 + r4.1 := add_id (by omega) (by omega)
    simp only [e1, e2, e3, e4]
    rw [rem_pos (by omega)]
    exact ⟨Int.emod_nonneg _ (by omega), Int.emod_lt_of_pos _ h0⟩

theorem spec_l1Int_is {c : l1Cur} (h : curOk c) {l : List Int} (hl : 0 < l.length) (hk : ∀ x ∈ l, ok x) : Gets (fun r => (ok r.1 ∧ r.1 ∈ l) ∧ curOk r.2) (spec_l1Int c l) := by
  refine Gets.bind (spec_l1Below_is h (n := N.len l) (by rw [len_d]; omega)) fun r ⟨⟨h1, h2⟩, h3⟩ => Gets.ite h1 (Gets.ite h2 (Gets.pure ⟨?_, h3⟩))
  rw [len_d] at h2
  have e : r.1 = ((r.1.toNat : Nat) : Int) := by omega
  have hm : N.rd l r.1 0 ∈ l := by rw [e, rd_at l r.1.toNat (by omega)]; exact List.getElem_mem _
  exact ⟨hk _ hm, hm⟩

/-! ## Addresses and resources -/
theorem spec_l4Draw_is {c : l1Cur} (h : curOk c) : Gets (fun r => ok r.1 ∧ curOk r.2) (spec_l4Draw c) :=
  Gets.bind (spec_l1Below_is h (by omega)) fun r ⟨h1, h2⟩ => Gets.bind (spec_l1Below_is h2 (by omega)) fun r3 ⟨h3, h4⟩ => Gets.bind (spec_l1Below_is h4 (by omega)) fun r4 ⟨h5, h6⟩ =>
    Gets.pure ⟨⟨ok_add _ _, ok_below h3 (by omega), ok_below h5 (by omega)⟩, h6⟩

theorem spec_l4Raw_is {c : l1Cur} (h : curOk c) : Gets (fun r => ok r.1 ∧ curOk r.2) (spec_l4Raw c) :=
  Gets.bind (spec_l1Int_is h (by simp) (by simp [ok])) fun r ⟨h1, h2⟩ => Gets.pure ⟨h1.1, h2⟩

theorem spec_l5Body_is {c : l1Cur} (h : curOk c) : Gets (fun r => few 5 r.1 ∧ curOk r.2) (spec_l5Body c) := by
  refine Gets.bind (spec_l1Below_is h (n := 5) (by omega)) fun r ⟨h1, h2⟩ => ?_
  refine Gets.fill (K := curOk) (m := 5) (by omega) (fun xs n c hc h0 h9 hx => ?_) (fun xs n c hn => ?_) h1.1 (by omega) h2
  · refine Gets.cond (fun _ => ?_) fun hf => ?_
    · refine Gets.bind (spec_l1Below_is hc (n := 9) (by omega)) fun r2 ⟨h3, h4⟩ => Gets.ite (fitsN (by have := hx.1; simp; omega) (by omega)) (Gets.pure ⟨_, _, rfl, ok_num (by omega) (by omega), h4⟩)
    · simp only [gt_d, decide_eq_false_iff_not] at hf; omega
  · simp only [gt_d, cond_dec]; rw [if_neg (by omega)]

theorem few.mono {α : Type} [Data α] {n m : Nat} {xs : List α} (h : few n xs) (hm : n ≤ m) : few m xs := ⟨Nat.le_trans h.1 hm, h.2⟩

theorem spec_l5Draw_is {c : l1Cur} (h : curOk c) : Gets (fun r => (ok r.1 ∧ few 5 r.2.1 ∧ ok r.2.2.1 ∧ ok r.2.2.2.1 ∧ ok r.2.2.2.2.1) ∧ curOk r.2.2.2.2.2) (spec_l5Draw c) := by
  have z : ∀ n : Int, 0 ≤ n → n ≤ 9 → ok n := fun n h1 h2 => ok_num (by omega) (by omega)
  refine Gets.bind (spec_l1Below_is h (by omega)) fun r ⟨h1, h2⟩ => Gets.cond (fun _ => ?_) fun _ => Gets.cond (fun _ => Gets.pure ⟨⟨z 4 (by omega) (by omega), few.nil, z 0 (by omega) (by omega), z 0 (by omega) (by omega), z 0 (by omega) (by omega)⟩, h2⟩) fun _ => ?_
  · exact Gets.bind (spec_l4Draw_is h2) fun r ⟨⟨a1, a2, a3⟩, h3⟩ => Gets.pure ⟨⟨z 3 (by omega) (by omega), few.nil, a1, a2, a3⟩, h3⟩
  · exact Gets.bind (spec_l1Below_is h2 (by omega)) fun r3 ⟨h3, h4⟩ => Gets.bind (spec_l5Body_is h4) fun r4 ⟨h5, h6⟩ => Gets.pure ⟨⟨ok_add _ _, h5, z 0 (by omega) (by omega), z 0 (by omega) (by omega), z 0 (by omega) (by omega)⟩, h6⟩

/-! ## Captures -/
theorem spec_l15Draw_is {c : l1Cur} (h : curOk c) : Gets (fun r => few 8 r.1 ∧ curOk r.2) (spec_l15Draw c) := by
  refine Gets.bind (spec_l1Below_is h (n := 8) (by omega)) fun r ⟨h1, h2⟩ => ?_
  refine Gets.fill (K := curOk) (m := 8) (by omega) (fun xs n c hc h0 h9 hx => ?_) (fun xs n c hn => ?_) h1.1 (by omega) h2
  · refine Gets.cond (fun _ => ?_) fun hf => ?_
    · refine Gets.bind (spec_l4Draw_is hc) fun r2 ⟨h3, h4⟩ => Gets.bind (spec_l1Below_is h4 (n := 20) (by omega)) fun r3 ⟨h5, h6⟩ => Gets.bind (spec_l5Draw_is h6) fun r4 ⟨⟨a1, a2, a3, a4, a5⟩, h8⟩ =>
        Gets.ite (fitsN (by have := hx.1; simp; omega) (by omega)) (Gets.pure ⟨_, _, rfl, ⟨h3, ok_below h5 (by omega), a1, a2.ok (by omega), a3, a4, a5⟩, h8⟩)
    · simp only [gt_d, decide_eq_false_iff_not] at hf; omega
  · simp only [gt_d, cond_dec]; rw [if_neg (by omega)]

end D
end Go.Sh
set_option linter.unusedVariables false
set_option linter.unusedSimpArgs false
set_option synthInstance.maxSize 100000
set_option maxHeartbeats 2000000
namespace Go.Sh
open Go Data
namespace D
end D
end Go.Sh
set_option linter.unusedVariables false
set_option linter.unusedSimpArgs false
set_option synthInstance.maxSize 100000
set_option maxHeartbeats 2000000
namespace Go.Sh
open Go Data
namespace D
theorem spec_l1Once_is {c : l1Cur} (h : curOk c) {n : Int} (h0 : 0 < n) : Gets (fun r => curOk r.2) (spec_l1Once c n) :=
  Gets.bind (spec_l1Below_is h h0) fun r ⟨_, h2⟩ => Gets.pure h2

end D
end Go.Sh
set_option linter.unusedVariables false
set_option linter.unusedSimpArgs false
set_option synthInstance.maxSize 100000
set_option maxHeartbeats 4000000
namespace Go.Sh
open Go Data
namespace D
end D
end Go.Sh
set_option linter.unusedVariables false
set_option linter.unusedSimpArgs false
set_option synthInstance.maxSize 100000
set_option maxHeartbeats 4000000
namespace Go.Sh
open Go Data
namespace D
/-! ## Sealing a container -/
def capIntsP (c : Capture) : List Int := [c.1.1, c.1.2.1, c.1.2.2, c.2.1] ++ resIntsP c.2.2

theorem capInts_len {c : Capture} (h : ok c) : (capIntsP c).length ≤ 1048585 := by
  have := resInts_len h.2.2; simp [capIntsP]; omega

theorem impl_CaptureInts_is {c : Capture} (h : ok c) : impl_CaptureInts c = some (capIntsP c) := by
  have := resInts_len h.2.2
  unfold impl_CaptureInts
  rw [impl_ResourceInts_is h.2.2, bind_some', nite_pos (fitsN (by simp; omega) (by omega))]; rfl

end D
end Go.Sh
set_option linter.unusedVariables false
set_option linter.unusedSimpArgs false
set_option synthInstance.maxSize 100000
set_option maxHeartbeats 4000000
namespace Go.Sh
open Go Data
namespace D
end D
end Go.Sh
set_option linter.unusedVariables false
set_option linter.unusedSimpArgs false
set_option synthInstance.maxSize 100000
set_option maxHeartbeats 4000000
namespace Go.Sh
open Go Data
namespace D
end D
end Go.Sh
set_option linter.unusedVariables false
set_option linter.unusedSimpArgs false
set_option synthInstance.maxSize 100000
set_option maxHeartbeats 4000000
namespace Go.Sh
open Go Data
namespace D
end D
end Go.Sh
set_option linter.unusedVariables false
set_option linter.unusedSimpArgs false
set_option synthInstance.maxSize 100000
set_option maxHeartbeats 4000000
namespace Go.Sh
open Go Data
namespace D
end D
end Go.Sh
set_option linter.unusedVariables false
set_option linter.unusedSimpArgs false
set_option synthInstance.maxSize 100000
set_option maxHeartbeats 4000000
namespace Go.Sh
open Go Data
end Go.Sh
set_option linter.unusedVariables false
set_option linter.unusedSimpArgs false
set_option synthInstance.maxSize 100000
set_option maxHeartbeats 4000000
namespace Go.Sh
open Go Data
namespace D
end D
end Go.Sh
set_option linter.unusedVariables false
set_option linter.unusedSimpArgs false
set_option synthInstance.maxSize 100000
set_option maxHeartbeats 4000000
namespace Go.Sh
open Go Data
namespace D
def edIntsP (e : Edition) : List Int := [e.2.1, e.2.2.1] ++ e.1.flatMap capIntsP

theorem edInts_take {e : Edition} (h : ok e) {k : Nat} (hk : k ≤ e.1.length) : ((e.1.take k).flatMap capIntsP).length ≤ 1099521064960 := by
  have h1 := take_flat_len (f := capIntsP) (m := 1048585) (xs := e.1) (fun c hc => capInts_len (h.1.2 c hc)) hk
  have h2 := h.1.1
  omega

theorem impl_EditionInts_is {e : Edition} (h : ok e) : impl_EditionInts e = some (edIntsP e) := by
  have hl := h.1.1
  refine loop_upto (r := edIntsP e) e.1.length (fun k (a : List Int) => (a, (k : Int))) (fun k => [e.2.1, e.2.2.1] ++ (e.1.take k).flatMap capIntsP) (fun k hk => ?_) ?_
  · have h0 : (0 : Int) ≤ (k : Int) := by omega
    have h1 : (k : Int) < (e.1.length : Int) := by omega
    have hc := h.1.at hk
    have h2 := edInts_take h (Nat.le_of_lt hk)
    have h3 := capInts_len hc
    simp only [ite_if]; simp only [lt_d, len_d, cond_dec, h0, h1, if_true, rd_at e.1 k hk, next_id hk (by omega), impl_CaptureInts_is hc, bind_some']
    rw [if_pos (by unfold N.fits; simp only [List.length_append, List.length_cons, List.length_nil]; omega), List.take_succ_eq_append_getElem hk, List.flatMap_append]
    simp [N.app]
  · simp only [lt_d, len_d, cond_dec, List.take_length]; rw [if_neg (by omega)]; rfl

end D
end Go.Sh
set_option linter.unusedVariables false
set_option linter.unusedSimpArgs false
set_option synthInstance.maxSize 100000
set_option maxHeartbeats 4000000
namespace Go.Sh
open Go Data
namespace D
end D
end Go.Sh
set_option linter.unusedVariables false
set_option linter.unusedSimpArgs false
set_option synthInstance.maxSize 100000
set_option maxHeartbeats 4000000
namespace Go.Sh
open Go Data
namespace D
end D
end Go.Sh
set_option linter.unusedVariables false
set_option linter.unusedSimpArgs false
set_option synthInstance.maxSize 100000
set_option maxHeartbeats 4000000
namespace Go.Sh
open Go Data
namespace D
end D
end Go.Sh
set_option linter.unusedVariables false
set_option linter.unusedSimpArgs false
set_option synthInstance.maxSize 100000
set_option maxHeartbeats 4000000
namespace Go.Sh
open Go Data
namespace D
end D
end Go.Sh
set_option linter.unusedVariables false
set_option linter.unusedSimpArgs false
set_option synthInstance.maxSize 100000
set_option maxHeartbeats 4000000
namespace Go.Sh
open Go Data
def goE {α σ R : Type} (body : α → σ → σ ⊕ R) (fin : σ → R) : List α → σ → R
  | [], a => fin a
  | x :: xs, a => Sum.elim (goE body fin xs) id (body x a)
/-- a loop over a list that may stop, with what is known at each round -/
theorem loop_eachI {α σ S R : Type} {step : S → Option (S ⊕ R)} (xs : List α) (emb : Nat → σ → S) (body : α → σ → σ ⊕ R) (fin : σ → R) (I : Nat → σ → Prop)
    (hstep : ∀ (k : Nat) (hk : k < xs.length) (a : σ), I k a → step (emb k a) = some (Sum.elim (fun a' => .inl (emb (k + 1) a')) .inr (body xs[k] a)) ∧ ∀ a', body xs[k] a = .inl a' → I (k + 1) a')
    (hend : ∀ a, I xs.length a → step (emb xs.length a) = some (.inr (fin a))) (a : σ) (h : I 0 a) : loopF step (emb 0 a) = some (goE body fin xs a) := by
  have key : ∀ (m k : Nat) (a : σ), k + m = xs.length → I k a → loopF step (emb k a) = some (goE body fin (xs.drop k) a) := by
    intro m
    induction m with
    | zero =>
      intro k a hk hI
      have hk' : k = xs.length := by omega
      subst hk'
      rw [loopF_inr (hend a hI), List.drop_length]; rfl
    | succ m ih =>
      intro k a hk hI
      have hlt : k < xs.length := by omega
      obtain ⟨h1, h2⟩ := hstep k hlt a hI
      rw [List.drop_eq_getElem_cons hlt]
      simp only [goE]
      cases hb : body xs[k] a with
      | inl a' =>
        rw [hb] at h1
        rw [loopF_inl h1]
        exact ih (k + 1) a' (by omega) (h2 a' hb)
      | inr r =>
        rw [hb] at h1
        rw [loopF_inr h1]; rfl
  simpa using key xs.length 0 a (by omega) h

namespace D
/-! ## Editions -/
def inT (f u : Int) (c : Capture) : Bool := decide (f ≤ c.2.1 ∧ c.2.1 ≤ u)
def wantC (f u : Int) (hid : List Address) (c : Capture) : Bool := inT f u c && !decide (c.1 ∈ hid)
def addD (acc : List Capture) (c : Capture) : List Capture := if c ∈ acc then acc else acc ++ [c]
def mk1 (f u : Int) (hid : List Address) (acc l : List Capture) : List Capture := (l.filter (wantC f u hid)).foldl addD acc
theorem addD_mem {acc : List Capture} {c x : Capture} : x ∈ addD acc c ↔ x ∈ acc ∨ x = c := by
  unfold addD
  split
  · rename_i h
    exact ⟨.inl, fun h' => h'.elim id fun e => e ▸ h⟩
  · simp
theorem adds_mem : ∀ {l acc : List Capture} {x : Capture}, x ∈ l.foldl addD acc ↔ x ∈ acc ∨ x ∈ l
  | [], acc, x => by simp
  | c :: l, acc, x => by rw [List.foldl_cons, adds_mem, addD_mem, List.mem_cons, or_assoc]
theorem adds_len : ∀ (l acc : List Capture), acc.length ≤ (l.foldl addD acc).length ∧ (l.foldl addD acc).length ≤ acc.length + l.length
  | [], acc => by simp
  | c :: l, acc => by
    have h := adds_len l (addD acc c)
    have h2 : acc.length ≤ (addD acc c).length ∧ (addD acc c).length ≤ acc.length + 1 := by
      unfold addD; split <;> simp
    rw [List.foldl_cons, List.length_cons]; omega
theorem adds_nodup : ∀ (l : List Capture) {acc : List Capture}, acc.Nodup → (l.foldl addD acc).Nodup
  | [], acc, h => h
  | c :: l, acc, h => by
    rw [List.foldl_cons]
    refine adds_nodup l ?_
    unfold addD
    split
    · exact h
    · rename_i hc
      rw [List.nodup_append]
      exact ⟨h, by simp, fun a ha b hb e => by simp only [List.mem_singleton] at hb; subst hb; subst e; exact hc ha⟩
theorem mk1_mem {f u : Int} {hid : List Address} {acc l : List Capture} {x : Capture} : x ∈ mk1 f u hid acc l ↔ x ∈ acc ∨ (x ∈ l ∧ wantC f u hid x = true) := by
  unfold mk1; rw [adds_mem, List.mem_filter]
theorem mk1_len (f u : Int) (hid : List Address) (acc l : List Capture) : acc.length ≤ (mk1 f u hid acc l).length ∧ (mk1 f u hid acc l).length ≤ acc.length + l.length := by
  have h := adds_len (l.filter (wantC f u hid)) acc
  have := List.length_filter_le (wantC f u hid) l
  unfold mk1; omega
theorem areCap_spec {l : List Capture} : areCapturesP l = true ↔ l.length ≤ 20 ∧ ∀ c ∈ l, capP c = true := by
  unfold areCapturesP; simp only [Bool.and_eq_true, decide_eq_true_eq, List.all_eq_true]
theorem mk1_up {f u : Int} {hid : List Address} {acc l : List Capture} (h : areCapturesP (mk1 f u hid acc l) = true) : areCapturesP acc = true := by
  rw [areCap_spec] at h ⊢
  have := mk1_len f u hid acc l
  exact ⟨by omega, fun c hc => h.2 c (mk1_mem.2 (.inl hc))⟩
theorem mk1_ok {f u : Int} {hid : List Address} {acc l : List Capture} (ha : ∀ c ∈ acc, ok c) (hl : ∀ c ∈ l, ok c) : ∀ c ∈ mk1 f u hid acc l, ok c := fun c hc => by
  rcases mk1_mem.1 hc with hc | ⟨hc, _⟩
  · exact ha c hc
  · exact hl c hc

abbrev EdR : Type := List Capture × Int × Int × List Address × Bool
def zeroR : EdR := ([], 0, 0, [], false)
def bodyS (f u : Int) (hid : List Address) (l acc : List Capture) : List Capture ⊕ EdR := if areCapturesP l = true then .inl (mk1 f u hid acc l) else .inr zeroR
def bodyI (f u : Int) (hid : List Address) (l acc : List Capture) : List Capture ⊕ EdR := if areCapturesP l = true then (if areCapturesP (mk1 f u hid acc l) = true then .inl (mk1 f u hid acc l) else .inr zeroR) else .inr zeroR
def finS (f u : Int) (hid : List Address) (acc : List Capture) : EdR := if areCapturesP acc = true then (acc, f, u, hid, true) else zeroR
def finI (f u : Int) (hid : List Address) (acc : List Capture) : EdR := (acc, f, u, hid, true)
theorem go_bad (f u : Int) (hid : List Address) : ∀ (ls : List (List Capture)) (acc : List Capture), ¬ areCapturesP acc = true → goE (bodyS f u hid) (finS f u hid) ls acc = zeroR
  | [], acc, h => by simp only [goE, finS]; rw [if_neg h]
  | l :: ls, acc, h => by
    simp only [goE, bodyS]
    split
    · exact go_bad f u hid ls _ fun h' => h (mk1_up h')
    · rfl
theorem go_same (f u : Int) (hid : List Address) : ∀ (ls : List (List Capture)) (acc : List Capture), areCapturesP acc = true → goE (bodyI f u hid) (finI f u hid) ls acc = goE (bodyS f u hid) (finS f u hid) ls acc
  | [], acc, h => by simp only [goE, finS, finI]; rw [if_pos h]
  | l :: ls, acc, h => by
    simp only [goE, bodyS, bodyI]
    by_cases h1 : areCapturesP l = true
    · rw [if_pos h1, if_pos h1]
      by_cases h2 : areCapturesP (mk1 f u hid acc l) = true
      · rw [if_pos h2]; exact go_same f u hid ls _ h2
      · rw [if_neg h2]; exact (go_bad f u hid ls _ h2).symm
    · rw [if_neg h1, if_neg h1]; rfl

theorem impl_AddCaptures_is {a b : List Capture} (ha : few 100000 a) (hb : few 100000 b) : impl_AddCaptures a b = some (if areCapturesP (b.foldl addD a) = true then (b.foldl addD a, true) else (a, false)) := by
  have hla := ha.1; have hlb := hb.1
  unfold impl_AddCaptures
  rw [impl_copyCaptures_is (ha.ok (by omega)), bind_some']
  have hpre : ∀ k, few 200000 ((b.take k).foldl addD a) := fun k => by
    have := adds_len (b.take k) a
    have h2 := List.length_take_le k b
    have h3 := List.length_take_le' k b
    exact ⟨by omega, fun c hc => by
      rcases adds_mem.1 hc with hc | hc
      · exact ha.2 c hc
      · exact hb.2 c (List.mem_of_mem_take hc)⟩
  refine loop_upto b.length (fun k (acc : List Capture) => (acc, (k : Int))) (fun k => (b.take k).foldl addD a) _ (fun k hk => ?_) ?_
  · have h0 : (0 : Int) ≤ (k : Int) := by omega
    have h1 : (k : Int) < (b.length : Int) := by omega
    have hp := hpre k
    rw [List.take_succ_eq_append_getElem hk, List.foldl_append, List.foldl_cons, List.foldl_nil]
    generalize (b.take k).foldl addD a = acc at hp ⊢
    simp only [ite_if]; simp only [lt_d, len_d, cond_dec, h0, h1, if_true, rd_at b k hk, next_id hk (by omega), impl_hasCapture_is (hp.ok (by omega)), bind_some', not_d, impl_copyResource_is (hb.2 _ (List.getElem_mem hk)).2.2]
    unfold addD
    by_cases hm : b[k] ∈ acc
    · simp [hm]
    · have hf := hp.1
      simp only [hm, not_false_eq_true, if_true, if_false]
      rw [if_pos (fitsN (by simp; omega) (by omega))]; rfl
  · have hp := hpre b.length
    rw [List.take_length] at hp ⊢
    simp only [lt_d, len_d, cond_dec]; rw [if_neg (by omega), impl_AreCaptures_is (hp.ok (by omega)), bind_some', cond_not, cond_if]
    split
    · rfl
    · rfl
theorem outside_filter (l : List Capture) (hid : List Address) : outsideP l hid = l.filter fun c => !decide (c.1 ∈ hid) := by
  unfold outsideP
  induction l with
  | nil => rfl
  | cons c l ih => rw [List.flatMap_cons, ih, List.filter_cons]; by_cases hc : c.1 ∈ hid <;> simp [hc]
theorem spec_l20In_long {l : List Capture} (hl : l.length ≤ 4611686018427387904) (h : ∀ c ∈ l, ok c) (x : Capture) : spec_l20In l x = some (decide (x ∈ l)) := by
  have e : l.any (fun y => decide (y = x)) = decide (x ∈ l) := by
    by_cases hx : x ∈ l
    · have : l.any (fun y => decide (y = x)) = true := List.any_eq_true.2 ⟨x, hx, by simp⟩
      simp [this, hx]
    · have : ¬ l.any (fun y => decide (y = x)) = true := fun h => by
        obtain ⟨y, hy, e⟩ := List.any_eq_true.1 h
        simp only [decide_eq_true_eq] at e; subst e; exact hx hy
      simp only [Bool.not_eq_true] at this
      simp [hx, this]
  rw [← e]
  refine loop_any l (fun k => (k : Int)) (fun y => decide (y = x)) (fun k hk => ?_) ?_
  · have h0 : (0 : Int) ≤ (k : Int) := by omega
    have h1 : (k : Int) < (l.length : Int) := by omega
    simp only [ite_if]; simp only [lt_d, len_d, cond_dec, h0, h1, if_true, rd_at l k hk, spec_l15Same_is (h _ (List.getElem_mem hk)), bind_some', next_id hk (by omega), decide_eq_true_eq]
    split <;> rfl
  · simp only [lt_d, len_d, cond_dec]; rw [if_neg (by omega)]
theorem spec_AreCaptures_long {l : List Capture} (hl : l.length ≤ 4611686018427387904) (h : ∀ c ∈ l, ok c) : spec_AreCaptures l = some (areCapturesP l) := by
  refine (loop_find l (fun k => ((k : Nat) : Int)) (fun x => if capP x = true then none else some false) (decide (l.length ≤ 20)) (fun k hk => ?_) ?_).trans ?_
  · have h0 : (0 : Int) ≤ (k : Int) := by omega
    have h1 : (k : Int) < (l.length : Int) := by omega
    have hr := (h _ (List.getElem_mem hk)).2.2.2.1.1
    simp only [ite_if]; simp only [lt_d, len_d, cond_dec, h0, h1, if_true, rd_at l k hk, spec_IsAddress_is, spec_l1In_is, spec_IsResource_is (r := (l[k]).2.2) (by omega), bind_some', next_id hk (by omega), cond_not]
    unfold capP
    by_cases c2 : 0 ≤ (l[k]).2.1 ∧ (l[k]).2.1 ≤ 2000 <;> cases addrP (l[k]).1 <;> cases resP (l[k]).2.2 <;> simp [c2]
  · simp only [lt_d, len_d, cond_dec]; rw [if_neg (by omega)]
    congr 2
    simp only [le_d]
    by_cases h1 : l.length ≤ 20 <;> simp [h1] <;> omega
  · rw [find_all, Bool.and_comm]; rfl
def makeP (ls : List (List Capture)) (f u : Int) (hid : List Address) : EdR :=
  if (0 ≤ f ∧ f ≤ 2000) ∧ f ≤ u ∧ u ≤ 2000 then goE (bodyS f u hid) (finS f u hid) ls [] else zeroR
theorem slices_Clone_Address_is {l : List Address} (h : l.length ≤ 100000000) : slices_Clone_Address l = some l := by
  unfold slices_Clone_Address
  refine nilc_same ?_
  rw [nite_pos (fitsN (by simpa using h) (by omega))]; simp [N.app]
theorem impl_MakeEdition_is {ls : List (List Capture)} {f u : Int} {hid : List Address} (hls : ok ls) (hh : ok hid) : impl_MakeEdition ls f u hid = some (makeP ls f u hid) := by
  have hl := hls.1; have hhl := hh.1
  unfold impl_MakeEdition makeP
  rw [impl_InRange_is, bind_some', not_d, cond_dec, impl_InRange_is, bind_some', not_d, cond_dec]
  by_cases h1 : 0 ≤ f ∧ f ≤ 2000
  · by_cases h2 : f ≤ u ∧ u ≤ 2000
    · rw [if_neg (by simpa using h1), if_neg (by simpa using h2), if_pos ⟨h1, h2.1, h2.2⟩, slices_Clone_Address_is (by omega), bind_some', ← go_same f u hid ls [] (by decide)]
      refine loop_eachI ls (fun k (acc : List Capture) => ((k : Int), (([], 0, 0, []) : Edition), ((acc, f, u, hid) : Edition))) (bodyI f u hid) (finI f u hid) (fun k acc => areCapturesP acc = true ∧ ∀ c ∈ acc, ok c) (fun k hk acc hI => ?_) (fun acc hI => ?_) [] ⟨by decide, fun _ h => (by cases h)⟩
      · have h0 : (0 : Int) ≤ (k : Int) := by omega
        have h3 : (k : Int) < (ls.length : Int) := by omega
        have hlk := hls.at hk
        obtain ⟨hI1, hI2⟩ := hI
        have ha := areCap_spec.1 hI1
        refine ⟨?_, fun a' ha' => ?_⟩
        · simp only [ite_if]; simp only [lt_d, len_d, cond_dec, h0, h3, if_true, rd_at ls k hk, next_id hk (by omega), impl_AreCaptures_is hlk, bind_some', cond_not, cond_if]
          unfold bodyI
          by_cases hc : areCapturesP ls[k] = true
          · simp only [hc, if_true]
            have hc20 := (areCap_spec.1 hc).1
            refine loop_flat' ls[k] (fun c => if wantC f u hid c = true then [c] else []) _ (fun j hj => ?_) ?_
            · have j0 : (0 : Int) ≤ (j : Int) := by omega
              have j1 : (j : Int) < ((ls[k]).length : Int) := by omega
              have h2 := take_flat_len (f := fun c : Capture => if wantC f u hid c = true then [c] else []) (m := 1) (xs := ls[k]) (fun x _ => by split <;> simp) (Nat.le_of_lt hj)
              simp only [ite_if]; simp only [lt_d, len_d, cond_dec, j0, j1, if_true, rd_at ls[k] j hj, next_id hj (by omega), impl_InRange_is, slices_Contains_Address_is (l := hid) (by omega), bind_some', not_d]
              unfold wantC inT
              by_cases c1 : f ≤ ((ls[k])[j]).2.1 ∧ ((ls[k])[j]).2.1 ≤ u
              · by_cases c2 : ((ls[k])[j]).1 ∈ hid
                · simp [c1, c2]
                · simp only [c1, c2, and_self, decide_true, decide_false, Bool.not_false, Bool.and_true, if_true, not_false_eq_true]
                  rw [if_pos (fitsN (by have e := h2; unfold wantC inT at e; simp only [List.length_cons, List.length_nil]; omega) (by omega))]; rfl
              · simp [c1]
            · have e : (ls[k]).flatMap (fun c => if wantC f u hid c = true then [c] else []) = (ls[k]).filter (wantC f u hid) := by
                generalize ls[k] = l
                induction l with
                | nil => rfl
                | cons c l ih => rw [List.flatMap_cons, ih, List.filter_cons]; split <;> rfl
              rw [e]
              have hfl := List.length_filter_le (wantC f u hid) ls[k]
              simp only [lt_d, len_d, cond_dec, Int.lt_irrefl, decide_false, Bool.false_eq_true, if_false]
              rw [impl_AddCaptures_is (a := acc) (b := (ls[k]).filter (wantC f u hid)) ⟨by omega, hI2⟩ ⟨by omega, fun c hc => hlk.2 c ((List.mem_filter.1 hc).1)⟩, bind_some']
              unfold mk1
              by_cases hm : areCapturesP (((ls[k]).filter (wantC f u hid)).foldl addD acc) = true
              · rw [if_pos hm, if_pos hm]; rfl
              · rw [if_neg hm, if_neg hm]; rfl
          · simp only [hc]; rfl
        · unfold bodyI at ha'
          split at ha'
          · split at ha'
            · rename_i q1 q2
              simp only [Sum.inl.injEq] at ha'
              subst ha'
              exact ⟨q2, mk1_ok hI2 hlk.2⟩
            · cases ha'
          · cases ha'
      · simp only [lt_d, len_d, cond_dec]; rw [if_neg (by omega)]; rfl
    · rw [if_neg (by simpa using h1), if_pos (by simpa using h2), if_neg fun h => h2 h.2]; rfl
  · rw [if_pos (by simpa using h1), if_neg fun h => h1 h.1]; rfl
theorem spec_MakeEdition_is {ls : List (List Capture)} {f u : Int} {hid : List Address} (hls : ok ls) (hh : ok hid) : spec_MakeEdition ls f u hid = some (makeP ls f u hid) := by
  have hl := hls.1; have hhl := hh.1
  unfold spec_MakeEdition makeP
  rw [spec_l1In_is, bind_some', not_d, cond_dec, spec_l1In_is, bind_some', not_d, cond_dec]
  by_cases h1 : 0 ≤ f ∧ f ≤ 2000
  · by_cases h2 : f ≤ u ∧ u ≤ 2000
    · rw [if_neg (by simpa using h1), if_neg (by simpa using h2), if_pos ⟨h1, h2.1, h2.2⟩, nite_pos (fitsN (by simpa using Nat.le_trans hhl (by omega)) (by omega))]
      refine loop_eachI ls (fun k (acc : List Capture) => ((k : Int), (([], 0, 0, []) : Edition), ((acc, f, u, hid) : Edition))) (bodyS f u hid) (finS f u hid) (fun k acc => acc.length ≤ 20 * k ∧ ∀ c ∈ acc, ok c) (fun k hk acc hI => ?_) (fun acc hI => ?_) [] ⟨by simp, fun _ h => (by cases h)⟩
      · have h0 : (0 : Int) ≤ (k : Int) := by omega
        have h3 : (k : Int) < (ls.length : Int) := by omega
        have hlk := hls.at hk
        obtain ⟨hI1, hI2⟩ := hI
        refine ⟨?_, fun a' ha' => ?_⟩
        · simp only [ite_if]; simp only [lt_d, len_d, cond_dec, h0, h3, if_true, rd_at ls k hk, next_id hk (by omega), spec_AreCaptures_is hlk, bind_some', cond_not, cond_if, spec_l23Without_is hlk hh]
          unfold bodyS
          by_cases hc : areCapturesP ls[k] = true
          · simp only [hc, if_true]
            have hc20 := (areCap_spec.1 hc).1
            rw [outside_filter]
            have hfl := List.length_filter_le (fun c : Capture => !decide (c.1 ∈ hid)) ls[k]
            have hok : ∀ c ∈ (ls[k]).filter (fun c : Capture => !decide (c.1 ∈ hid)), ok c := fun c hc => hlk.2 c ((List.mem_filter.1 hc).1)
            have hmk : mk1 f u hid acc ls[k] = ((ls[k]).filter (fun c : Capture => !decide (c.1 ∈ hid))).foldl (fun acc c => if inT f u c = true then addD acc c else acc) acc := by
              unfold mk1
              rw [← List.foldl_filter, List.filter_filter]
              rfl
            rw [hmk]
            generalize (ls[k]).filter (fun c : Capture => !decide (c.1 ∈ hid)) = l at hfl hok ⊢
            have hpre : ∀ j, ((l.take j).foldl (fun acc c => if inT f u c = true then addD acc c else acc) acc).length ≤ acc.length + l.length ∧ ∀ c ∈ (l.take j).foldl (fun acc c => if inT f u c = true then addD acc c else acc) acc, ok c := fun j => by
              rw [← List.foldl_filter]
              have q1 := adds_len ((l.take j).filter (inT f u)) acc
              have q2 := List.length_filter_le (inT f u) (l.take j)
              have q3 := List.length_take_le' j l
              refine ⟨by omega, fun c hc => ?_⟩
              rcases adds_mem.1 hc with hc | hc
              · exact hI2 c hc
              · exact hok c (List.mem_of_mem_take ((List.mem_filter.1 hc).1))
            refine loop_upto l.length (fun j (acc : List Capture) => ((j : Int), ((acc, f, u, hid) : Edition))) (fun j => (l.take j).foldl (fun acc c => if inT f u c = true then addD acc c else acc) acc) _ (fun j hj => ?_) ?_
            · have j0 : (0 : Int) ≤ (j : Int) := by omega
              have j1 : (j : Int) < (l.length : Int) := by omega
              obtain ⟨p1, p2⟩ := hpre j
              rw [List.take_succ_eq_append_getElem hj, List.foldl_append, List.foldl_cons, List.foldl_nil]
              generalize (l.take j).foldl (fun acc c => if inT f u c = true then addD acc c else acc) acc = ac at p1 p2 ⊢
              simp only [ite_if]; simp only [lt_d, len_d, cond_dec, j0, j1, if_true, rd_at l j hj, next_id hj (by omega), spec_l1In_is, spec_l20In_long (l := ac) (by omega) p2, bind_some', not_d]
              unfold inT addD
              by_cases c1 : f ≤ (l[j]).2.1 ∧ (l[j]).2.1 ≤ u
              · by_cases c2 : l[j] ∈ ac
                · simp [c1, c2]
                · simp only [c1, c2, and_self, decide_true, if_true, if_false, not_false_eq_true]
                  rw [if_pos (fitsN (by simp; omega) (by omega))]; rfl
              · simp [c1]
            · simp only [lt_d, len_d, cond_dec, List.take_length, Int.lt_irrefl, decide_false, Bool.false_eq_true, if_false]; rfl
          · simp only [hc]; rfl
        · unfold bodyS at ha'
          split at ha'
          · rename_i q1
            simp only [Sum.inl.injEq] at ha'
            subst ha'
            have := mk1_len f u hid acc ls[k]
            have := (areCap_spec.1 q1).1
            exact ⟨by omega, mk1_ok hI2 hlk.2⟩
          · cases ha'
      · obtain ⟨hI1, hI2⟩ := hI
        simp only [lt_d, len_d, cond_dec]; rw [if_neg (by omega)]
        unfold finS
        rw [spec_AreCaptures_long (by omega) hI2, bind_some', cond_not, cond_if]
        split <;> rfl
    · rw [if_neg (by simpa using h1), if_pos (by simpa using h2), if_neg fun h => h2 h.2]; rfl
  · rw [if_pos (by simpa using h1), if_neg fun h => h1 h.1]; rfl
end D
end Go.Sh
set_option linter.unusedVariables false
set_option linter.unusedSimpArgs false
set_option synthInstance.maxSize 100000
set_option maxHeartbeats 4000000
namespace Go.Sh
open Go Data
namespace D
theorem goS_spec (f u : Int) (hid : List Address) : ∀ (ls : List (List Capture)) (acc : List Capture), goE (bodyS f u hid) (finS f u hid) ls acc = zeroR ∨
    ∃ acc', goE (bodyS f u hid) (finS f u hid) ls acc = (acc', f, u, hid, true) ∧ areCapturesP acc' = true ∧ (∀ x, x ∈ acc' ↔ x ∈ acc ∨ ∃ l ∈ ls, x ∈ l ∧ wantC f u hid x = true) ∧ (acc.Nodup → acc'.Nodup)
  | [], acc => by
    simp only [goE, finS]
    by_cases h : areCapturesP acc = true
    · rw [if_pos h]; exact .inr ⟨acc, rfl, h, fun x => by simp, id⟩
    · rw [if_neg h]; exact .inl rfl
  | l :: ls, acc => by
    simp only [goE, bodyS]
    by_cases h : areCapturesP l = true
    · rw [if_pos h]
      rcases goS_spec f u hid ls (mk1 f u hid acc l) with h1 | ⟨acc', h1, h2, h3, h4⟩
      · exact .inl h1
      · refine .inr ⟨acc', h1, h2, fun x => ?_, fun hn => h4 (adds_nodup _ hn)⟩
        rw [h3, mk1_mem, or_assoc]
        refine or_congr_right ⟨fun hx => ?_, fun hx => ?_⟩
        · rcases hx with hx | ⟨m, hm, hx⟩
          · exact ⟨l, by simp, hx⟩
          · exact ⟨m, by simp [hm], hx⟩
        · obtain ⟨m, hm, hx⟩ := hx
          rcases List.mem_cons.1 hm with rfl | hm
          · exact .inl hx
          · exact .inr ⟨m, hm, hx⟩
    · rw [if_neg h]; exact .inl rfl
structure MadeQ (ls : List (List Capture)) (f u : Int) (hid : List Address) (r : EdR) : Prop where
  ed : ok ((r.1, r.2.1, r.2.2.1, r.2.2.2.1) : Edition)
  made : r.2.2.2.2 = true → (0 ≤ f ∧ f ≤ u ∧ u ≤ 2000) ∧ (r.2.1 = f ∧ r.2.2.1 = u ∧ r.2.2.2.1 = hid) ∧ areCapturesP r.1 = true ∧ (∀ x, x ∈ r.1 ↔ ∃ l ∈ ls, x ∈ l ∧ wantC f u hid x = true) ∧ r.1.Nodup
theorem make_spec {ls : List (List Capture)} {f u : Int} {hid : List Address} (hls : ok ls) (hh : ok hid) : MadeQ ls f u hid (makeP ls f u hid) := by
  have z : ok (0 : Int) := ok_num (by omega) (by omega)
  have zero : MadeQ ls f u hid zeroR := ⟨⟨⟨by simp [zeroR], fun _ h => (by cases h)⟩, z, z, ⟨by simp [zeroR], fun _ h => (by cases h)⟩⟩, fun h => (by cases h)⟩
  unfold makeP
  split
  · rename_i h
    rcases goS_spec f u hid ls [] with h1 | ⟨acc', h1, h2, h3, h4⟩
    · rw [h1]; exact zero
    · rw [h1]
      have h3' : ∀ x, x ∈ acc' ↔ ∃ l ∈ ls, x ∈ l ∧ wantC f u hid x = true := fun x => by rw [h3]; simp
      have hc := areCap_spec.1 h2
      refine ⟨⟨⟨by simp only; omega, fun c hc => ?_⟩, ok_num (by simp only; omega) (by simp only; omega), ok_num (by simp only; omega) (by simp only; omega), hh⟩, fun _ => ⟨⟨h.1.1, h.2.1, h.2.2⟩, ⟨rfl, rfl, rfl⟩, h2, h3', h4 List.nodup_nil⟩⟩
      obtain ⟨l, hl, hcl, _⟩ := (h3' c).1 hc
      exact (hls.2 l hl).2 c hcl
  · exact zero

end D
end Go.Sh
set_option linter.unusedVariables false
set_option linter.unusedSimpArgs false
set_option synthInstance.maxSize 100000
set_option maxHeartbeats 4000000
namespace Go.Sh
open Go Data
namespace D
/-! ## Editions that are drawn -/
theorem make_few {ls : List (List Capture)} {f u : Int} {hid : List Address} : (makeP ls f u hid).1.length ≤ 20 ∧ (makeP ls f u hid).2.2.2.1.length ≤ hid.length := by
  unfold makeP
  split
  · rcases goS_spec f u hid ls [] with h1 | ⟨acc', h1, h2, _⟩
    · rw [h1]; simp [zeroR]
    · rw [h1]; exact ⟨(areCap_spec.1 h2).1, Nat.le_refl _⟩
  · simp [zeroR]
theorem spec_l23Lists_is {c : l1Cur} (h : curOk c) : Gets (fun r => (r.1.length ≤ 3 ∧ ∀ l ∈ r.1, few 32 l) ∧ curOk r.2) (spec_l23Lists c) := by
  refine Gets.bind (spec_l1Below_is h (by omega)) fun r ⟨h1, h2⟩ => ?_
  refine Gets.loop (fun s : List (List Capture) × Int × (List Int × Int × Int) => (s.1.length : Int) + s.2.1 ≤ 3 ∧ 0 ≤ s.2.1 ∧ (∀ l ∈ s.1, few (8 * (1 + s.1.length)) l) ∧ curOk s.2.2) (fun s => s.2.1.toNat) (fun s hs => ?_) _ ⟨by simp; omega, by simp only; omega, fun _ h => (by cases h), h2⟩
  obtain ⟨i1, i2, i3, i4⟩ := hs
  refine Gets.cond (fun hgt => ?_) fun _ => Gets.pure ⟨⟨by simp only; omega, fun l hl => few.mono (i3 l hl) (by omega)⟩, i4⟩
  have hgt' : 0 < s.2.1 := by simpa [gt_d] using hgt
  have hn : N.sub .i64 s.2.1 1 = s.2.1 - 1 := sub_id (by omega) (by omega)
  have next : ∀ {x : List Capture} {c' : l1Cur}, few (8 * (1 + (s.1.length + 1))) x → curOk c' → Gets (fun r => ∃ s', r = Sum.inl s' ∧ (((s'.1.length : Int) + s'.2.1 ≤ 3 ∧ 0 ≤ s'.2.1 ∧ (∀ l ∈ s'.1, few (8 * (1 + s'.1.length)) l) ∧ curOk s'.2.2) ∧ s'.2.1.toNat < s.2.1.toNat)) (N.ite (N.fits s.1 [x] 24) (some (Sum.inl (β := List (List Capture) × (List Int × Int × Int)) ((N.app s.1 [x], s.2.1 - 1, c') : List (List Capture) × Int × (List Int × Int × Int)))) none) := fun {x c'} hx hc => by
    refine Gets.ite (fitsN (by simp; omega) (by omega)) (Gets.pure ⟨_, rfl, ⟨by simp [N.app]; omega, by simp only; omega, fun l hl => ?_, hc⟩, by simp only; omega⟩)
    have e : (N.app s.1 [x]).length = s.1.length + 1 := by simp [N.app]
    simp only [e]
    rcases List.mem_append.1 hl with hl | hl
    · exact few.mono (i3 l hl) (by omega)
    · simp only [List.mem_singleton] at hl; subst hl; exact hx
  refine Gets.bind (spec_l15Draw_is i4) fun r2 ⟨g1, g2⟩ => Gets.cond (fun hlen => ?_) fun _ => ?_
  · refine Gets.bind (spec_l1Once_is g2 (by omega)) fun r3 g3 => Gets.cond (fun _ => ?_) fun _ => ?_
    · have hl0 : 0 < s.1.length := by simp only [gt_d, len_d, decide_eq_true_eq] at hlen; omega
      have h0 := i3 _ (List.getElem_mem hl0)
      have e0 : N.rd s.1 0 [] = s.1[0] := rd_at s.1 0 hl0 []
      rw [e0]
      refine Gets.ite (by rw [len_d]; omega) ?_
      rw [spec_l15Copy_is (h0.ok (by omega)), bind_some', hn]
      have q1 := g1.1; have q2 := h0.1
      refine Gets.ite (fitsN (by omega) (by omega)) ((next (x := N.app r2.1 s.1[0]) ⟨by simp [N.app]; omega, fun z hz => ?_⟩ g3).mono (by rintro _ ⟨s', rfl, h⟩; exact h))
      rcases List.mem_append.1 hz with hz | hz
      · exact g1.2 z hz
      · exact h0.2 z hz
    · rw [hn]
      exact (next (few.mono g1 (by omega)) g3).mono (by rintro _ ⟨s', rfl, h⟩; exact h)
  · rw [hn]
    exact (next (few.mono g1 (by omega)) g2).mono (by rintro _ ⟨s', rfl, h⟩; exact h)
theorem spec_l23Hidden_is {c : l1Cur} (h : curOk c) : Gets (fun r => few 2 r.1 ∧ curOk r.2) (spec_l23Hidden c) := by
  refine Gets.bind (spec_l1Below_is h (by omega)) fun r ⟨h1, h2⟩ => ?_
  refine Gets.fill (m := 2) (K := curOk) (by omega) (fun xs n c hc h0 h1 hf => ?_) (fun xs n c hn => ?_) (by omega) (by omega) h2
  · have hfl := hf.1
    simp only [gt_d, cond_dec]
    rw [if_pos h0]
    exact Gets.bind (spec_l4Draw_is hc) fun r2 ⟨g1, g2⟩ => Gets.ite (fitsN (by simp; omega) (by omega)) (Gets.pure ⟨_, _, rfl, g1, g2⟩)
  · simp only [gt_d, cond_dec]
    rw [if_neg (by omega)]
theorem lists_ok {ls : List (List Capture)} (h : ls.length ≤ 3 ∧ ∀ l ∈ ls, few 32 l) : ok ls := ⟨by omega, fun l hl => (h.2 l hl).ok (by omega)⟩
theorem spec_l23Draw_is {c : l1Cur} (h : curOk c) : Gets (fun r => (few 20 r.1 ∧ ok r.2.1 ∧ ok r.2.2.1 ∧ few 2 r.2.2.2.1) ∧ curOk r.2.2.2.2) (spec_l23Draw c) := by
  refine Gets.bind (spec_l23Lists_is h) fun r1 ⟨a1, a2⟩ => Gets.bind (spec_l1Below_is a2 (by omega)) fun r2 ⟨b1, b2⟩ => Gets.bind (spec_l1Below_is b2 (by omega)) fun r3 ⟨c1, c2⟩ => Gets.bind (spec_l23Hidden_is c2) fun r4 ⟨d1, d2⟩ => ?_
  have hl := lists_ok a1; have hh := d1.ok (by omega)
  rw [spec_MakeEdition_is hl hh, bind_some']
  have q := (make_spec (f := r2.1) (u := N.add .i64 10 r3.1) hl hh).ed
  have q2 := make_few (ls := r1.1) (f := r2.1) (u := N.add .i64 10 r3.1) (hid := r4.1)
  exact Gets.pure ⟨⟨⟨q2.1, q.1.2⟩, q.2.1, q.2.2.1, ⟨Nat.le_trans q2.2 d1.1, q.2.2.2.2⟩⟩, d2⟩
theorem spec_l23Any_is {c : l1Cur} (h : curOk c) : Gets (fun r => ok ((r.1, r.2.1, r.2.2.1, r.2.2.2.1) : Edition) ∧ curOk r.2.2.2.2) (spec_l23Any c) := by
  refine Gets.bind (spec_l23Draw_is h) fun r1 ⟨⟨a1, a2, a3, a4⟩, a5⟩ => Gets.bind (spec_l1Below_is a5 (by omega)) fun r2 ⟨b1, b2⟩ => ?_
  have k1 := a1.ok (by omega); have k4 := a4.ok (by omega)
  have l1 := a1.1; have l4 := a4.1
  refine Gets.cond (fun _ => Gets.bind (spec_l4Raw_is b2) fun r3 ⟨g1, g2⟩ => Gets.pure ⟨⟨k1, g1, a3, k4⟩, g2⟩) fun _ => ?_
  refine Gets.cond (fun _ => Gets.bind (spec_l1Int_is b2 (by simp) (by simp [ok])) fun r3 ⟨g1, g2⟩ => Gets.pure ⟨⟨k1, a2, g1.1, k4⟩, g2⟩) fun _ => ?_
  refine Gets.cond (fun _ => Gets.cond (fun hlen => ?_) fun _ => Gets.pure ⟨⟨k1, a2, a3, k4⟩, b2⟩) fun _ => ?_
  · have hl0 : 0 < r1.1.length := by simp only [gt_d, len_d, decide_eq_true_eq] at hlen; omega
    have e : N.cut r1.1 0 1 = [r1.1[0]] := cut_one r1.1 0 hl0
    have hc : ok [r1.1[0]] := ⟨by simp, fun x hx => by simp only [List.mem_singleton] at hx; subst hx; exact a1.2 _ (List.getElem_mem hl0)⟩
    refine Gets.ite (by rw [len_d]; omega) ?_
    rw [e, spec_l15Copy_is hc, bind_some']
    refine Gets.ite (fitsN (by simp; omega) (by omega)) (Gets.pure ⟨⟨⟨by simp [N.app]; omega, fun x hx => ?_⟩, a2, a3, k4⟩, b2⟩)
    rcases List.mem_append.1 hx with hx | hx
    · exact a1.2 x hx
    · exact hc.2 x hx
  · refine Gets.cond (fun _ => Gets.bind (spec_l4Draw_is b2) fun r6 ⟨g1, g2⟩ => ?_) fun _ => Gets.pure ⟨⟨k1, a2, a3, k4⟩, b2⟩
    exact Gets.ite (fitsN (by simp; omega) (by omega)) (Gets.pure ⟨⟨k1, a2, a3, (a4.app g1 (Nat.le_refl 3)).ok (by omega)⟩, g2⟩)
theorem spec_l23Copy_is {e : Edition} (h : ok e) : spec_l23Copy e = some e := by
  have := h.2.2.2.1
  unfold spec_l23Copy
  rw [spec_l15Copy_is h.1, bind_some', nite_pos (fitsN (by simp; omega) (by omega))]
  simp [N.app]
theorem spec_DrawEqualEditions_is {x : List Int} (h : x.length ≤ 1048576) : Gets (fun r => ok r.1 ∧ ok r.2) (spec_DrawEqualEditions x) := by
  refine Gets.bind (spec_l1New_is h) fun c hc => Gets.bind (spec_l23Any_is hc) fun r2 ⟨a1, a2⟩ => Gets.bind (spec_l1Once_is a2 (by omega)) fun r3 a3 => Gets.cond (fun _ => ?_) fun _ => ?_
  · rw [spec_l23Copy_is a1, bind_some']; exact Gets.pure ⟨a1, a1⟩
  · exact Gets.bind (spec_l23Any_is a3) fun r5 ⟨b1, _⟩ => Gets.pure ⟨a1, b1⟩
theorem spec_DrawEditionInts_is {x : List Int} (h : x.length ≤ 1048576) : Gets (fun r : List Capture × Int × Int × List Address => ok (r : Edition)) (spec_DrawEditionInts x) :=
  Gets.bind (P := fun r : List Capture × Int × Int × List Address => ok (r : Edition)) (Gets.bind (spec_l1New_is h) fun c hc => Gets.bind (spec_l23Any_is hc) fun r2 ⟨a1, a2⟩ => Gets.pure a1) fun r hr => Gets.pure hr
theorem spec_DrawMakeEdition_is {x : List Int} (h : x.length ≤ 1048576) : Gets (fun r => ok r.1 ∧ ok r.2.2.2) (spec_DrawMakeEdition x) := by
  refine Gets.bind (spec_l1New_is h) fun c hc => Gets.bind (spec_l23Lists_is hc) fun r2 ⟨a1, a2⟩ => Gets.bind (spec_l23Hidden_is a2) fun r3 ⟨b1, b2⟩ => Gets.bind (spec_l1Int_is b2 (by simp) (by simp [ok])) fun r4 ⟨c1, c2⟩ => Gets.bind (spec_l1Int_is c2 (by simp) (by simp [ok])) fun r5 ⟨d1, d2⟩ => Gets.pure ⟨lists_ok a1, b1.ok (by omega)⟩

/-! ## What an edition has -/
theorem made_edition {ls : List (List Capture)} {f u : Int} {hid : List Address} {r : EdR} (hq : MadeQ ls f u hid r) (hm : r.2.2.2.2 = true) : editionP (r.1, r.2.1, r.2.2.1, r.2.2.2.1) = true := by
  obtain ⟨h1, ⟨h2, h3, h4⟩, h5, h6, h7⟩ := hq.made hm
  unfold editionP
  simp only [Bool.and_eq_true, decide_eq_true_eq, List.all_eq_true, List.mem_range]
  refine ⟨⟨h5, by rw [h2, h3]; exact h1⟩, fun k hk => ?_⟩
  unfold edAt
  simp only [List.getElem?_eq_getElem hk]
  obtain ⟨l, _, _, hw⟩ := (h6 _).1 (List.getElem_mem hk)
  unfold wantC inT at hw
  simp only [Bool.and_eq_true, decide_eq_true_eq, Bool.not_eq_true', decide_eq_false_iff_not] at hw ⊢
  rw [h2, h3, h4]
  refine ⟨hw, fun hin => ?_⟩
  obtain ⟨j, hj, e⟩ := List.getElem_of_mem hin
  have hj' : j < k := by simp at hj; omega
  rw [List.getElem_take] at e
  exact (List.pairwise_iff_getElem.1 h7) j k (by omega) hk hj' e
theorem agree_outside {ls : List (List Capture)} {f u : Int} {hid : List Address} (hls : ok ls) {r r2 : EdR} (hr : makeP ls f u hid = r) (hr2 : makeP ls f u [] = r2) (h1 : r.2.2.2.2 = true) (h2 : r2.2.2.2.2 = true) : outsideP r.1 hid = outsideP r2.1 hid := by
  subst hr; subst hr2
  unfold makeP at h1 h2 ⊢
  by_cases hc : (0 ≤ f ∧ f ≤ 2000) ∧ f ≤ u ∧ u ≤ 2000
  · rw [if_pos hc] at h1 h2 ⊢
    rw [if_pos hc]
    have nh : ∀ c : Capture, wantC f u [] c = inT f u c := fun c => by unfold wantC; simp
    have key : ∀ (ls : List (List Capture)) (a b : List Capture), outsideP a hid = outsideP b hid → (∀ x ∈ a, ¬ x.1 ∈ hid) → (goE (bodyS f u hid) (finS f u hid) ls a).2.2.2.2 = true → (goE (bodyS f u []) (finS f u []) ls b).2.2.2.2 = true → outsideP (goE (bodyS f u hid) (finS f u hid) ls a).1 hid = outsideP (goE (bodyS f u []) (finS f u []) ls b).1 hid := by
      intro ls
      induction ls with
      | nil =>
        intro a b hab hna g1 g2
        simp only [goE, finS] at g1 g2 ⊢
        split at g1
        · split at g2
          · rename_i q1 q2; rw [if_pos q1, if_pos q2]; exact hab
          · cases g2
        · cases g1
      | cons l ls ih =>
        intro a b hab hna g1 g2
        simp only [goE, bodyS] at g1 g2 ⊢
        by_cases hl : areCapturesP l = true
        · simp only [hl, if_true, Sum.elim_inl] at g1 g2 ⊢
          refine ih _ _ ?_ (fun x hx => ?_) g1 g2
          · rw [outside_filter, outside_filter] at hab ⊢
            unfold mk1
            have : ∀ (m a b : List Capture), (a.filter fun c => !decide (c.1 ∈ hid)) = (b.filter fun c => !decide (c.1 ∈ hid)) → (((m.filter (wantC f u hid)).foldl addD a).filter fun c => !decide (c.1 ∈ hid)) = (((m.filter (wantC f u [])).foldl addD b).filter fun c => !decide (c.1 ∈ hid)) := by
              intro m
              induction m with
              | nil => intro a b h; exact h
              | cons c m ihm =>
                intro a b h
                rw [List.filter_cons, List.filter_cons, nh]
                by_cases c1 : inT f u c = true
                · by_cases c2 : c.1 ∈ hid
                  · have e1 : wantC f u hid c = false := by unfold wantC; simp [c2]
                    rw [e1, if_neg (by simp), c1, if_pos rfl, List.foldl_cons]
                    refine ihm _ _ ?_
                    rw [h]
                    unfold addD
                    split
                    · rfl
                    · rw [List.filter_append, List.filter_cons]; simp [c2]
                  · have e1 : wantC f u hid c = true := by unfold wantC; simp [c1, c2]
                    rw [e1, if_pos rfl, c1, if_pos rfl, List.foldl_cons, List.foldl_cons]
                    refine ihm _ _ ?_
                    have hin : c ∈ a ↔ c ∈ b := by
                      have := congrArg (c ∈ ·) h
                      simpa [List.mem_filter, c2] using this
                    unfold addD
                    by_cases hca : c ∈ a
                    · rw [if_pos hca, if_pos (hin.1 hca)]; exact h
                    · rw [if_neg hca, if_neg fun hb => hca (hin.2 hb), List.filter_append, List.filter_append, h]
                · have e1 : wantC f u hid c = false := by unfold wantC; simp [c1]
                  rw [e1, if_neg (by simp), if_neg c1]
                  exact ihm _ _ h
            exact this l a b hab
          · rcases mk1_mem.1 hx with hx | ⟨_, hx⟩
            · exact hna x hx
            · unfold wantC at hx; simp at hx; exact hx.2
        · simp only [hl] at g1; cases g1
    exact key ls [] [] rfl (fun _ h => by cases h) h1 h2
  · rw [if_neg hc] at h1; cases h1
end D
end Go.Sh
set_option linter.unusedVariables false
set_option linter.unusedSimpArgs false
set_option synthInstance.maxSize 100000
set_option maxHeartbeats 4000000
namespace Go.Sh
open Go Data
namespace D
theorem ed_tail {x : List Int} (h : x.length ≤ 1048576) : (N.bind (spec_DrawEqualEditions x) fun r21 => N.bind (spec_DrawEditionInts x) fun r22 => N.bind (impl_EqualEditions r21.1 r21.2) fun r23 => N.bind (impl_EqualEditions r21.2 r21.1) fun r24 =>
    N.cond (N.eqB r23 r24) (N.bind (impl_EqualEditions r21.1 r21.1) fun r25 => N.cond r25 (N.bind (impl_EditionInts r22) fun r26 => some (N.ge (N.len r26) 2)) (some false)) (some false)) = some true := by
  obtain ⟨p, e1, h1, h2⟩ := spec_DrawEqualEditions_is h
  obtain ⟨q, e2, h3⟩ := spec_DrawEditionInts_is h
  rw [e1, bind_some', e2, bind_some', impl_EqualEditions_is h1, impl_EqualEditions_is h2, bind_some', bind_some', impl_EqualEditions_is h1, bind_some', impl_EditionInts_is h3]
  have e : N.eqB (decide (p.1 = p.2)) (decide (p.2 = p.1)) = true := by
    rw [eqB_d]; exact decide_eq_true (decide_eq_decide.2 eq_comm)
  rw [e, cond_true, show decide (p.1 = p.1) = true from decide_eq_true rfl, cond_true, bind_some', ge_d, len_d]
  congr 1
  refine decide_eq_true ?_
  unfold edIntsP
  simp only [List.length_append, List.length_cons, List.length_nil]
  omega
theorem FnEditions_true (x : List Int) (hx : bd x) : laws_FnEditions x = some true := by
  unfold laws_FnEditions laws_big
  rw [bind_some', gt_d, len_d, cond_dec]
  by_cases hb : (1048576 : Int) < (x.length : Int)
  · rw [if_pos hb]
  rw [if_neg hb]
  have hxl : x.length ≤ 1048576 := by omega
  obtain ⟨d, e1, hls, hh⟩ := spec_DrawMakeEdition_is hxl
  obtain ⟨ls, f, u, hid⟩ := d
  simp only at hls hh
  rw [e1, bind_some']
  simp only [impl_MakeEdition_is hls hh, bind_some', ed_tail hxl]
  have hq := make_spec (f := f) (u := u) hls hh
  have hnil : ok ([] : List Address) := ⟨by simp, fun _ h => (by cases h)⟩
  have hq2 := make_spec (f := f) (u := u) hls hnil
  rw [impl_MakeEdition_is hls hnil, bind_some']
  generalize hr : makeP ls f u hid = r at hq ⊢
  generalize hr2 : makeP ls f u [] = r2 at hq2 ⊢
  cases hm : r.2.2.2.2 with
  | false => rfl
  | true =>
    have hed := made_edition hq hm
    obtain ⟨g1, ⟨g2, g3, g4⟩, g5, g6, g7⟩ := hq.made hm
    have hrl := hq.ed.1.1
    simp only at hrl
    rw [cond_true, impl_IsEdition_is hq.ed, bind_some', hed, not_b, Bool.not_true, cond_false]
    have hll := hls.1; have hhl := hh.1
    have hout : N.bind (impl_AgreeOutside (r.1, r.2.1, r.2.2.1, r.2.2.2.1) (r2.1, r2.2.1, r2.2.2.1, r2.2.2.2.1) hid) (fun r8 => N.cond (N.not r8) (some false) (some true)) = some true ∨ r2.2.2.2.2 = false := by
      cases hm2 : r2.2.2.2.2 with
      | false => exact .inr rfl
      | true =>
        left
        unfold impl_AgreeOutside
        rw [impl_outside_is hq.ed.1 hh, impl_outside_is hq2.ed.1 hh, bind_some', bind_some', agree_outside hls hr hr2 hm hm2, impl_EqualCaptures_is (outside_ok hq2.ed.1 hid), bind_some', bind_some', not_d, cond_dec]
        simp
    refine loop_upto ls.length (fun k (_ : Unit) => (k : Int)) (fun _ => ()) true (fun k hk => ?_) ?_
    · have k0 : (0 : Int) ≤ (k : Int) := by omega
      have k1 : (k : Int) < (ls.length : Int) := by omega
      have hlk := hls.at hk
      have hlkl := hlk.1
      simp only [lt_d, len_d]
      rw [decide_eq_true k1, cond_true]
      refine loop_upto (ls[k]).length (fun i (_ : Unit) => (i : Int)) (fun _ => ()) _ (fun i hi => ?_) ?_
      · have i0 : (0 : Int) ≤ (i : Int) := by omega
        have i1 : (i : Int) < ((ls[k]).length : Int) := by omega
        have hc := hlk.at hi
        have hwant : (decide ((ls[k])[i] ∈ r.1)) = wantC f u hid (ls[k])[i] := by
          cases hw : wantC f u hid (ls[k])[i] with
          | true => exact decide_eq_true ((g6 _).2 ⟨ls[k], List.getElem_mem hk, List.getElem_mem hi, hw⟩)
          | false =>
            exact decide_eq_false fun hin => by
              obtain ⟨l, _, _, hw'⟩ := (g6 _).1 hin
              rw [hw] at hw'; cases hw'
        simp only [nite_pos k0, nite_pos k1, nite_pos i0, rd_at ls k hk, rd_at ls[k] i hi, decide_eq_true i1, cond_true, nite_pos i1, ge_d, le_d, addr_eq, not_d, neB_d]
        have nx : N.add .i64 (i : Int) 1 = ((i + 1 : Nat) : Int) := next_id hi (by omega)
        have i2 : (i : Int) ≤ ((i + 1 : Nat) : Int) := by omega
        have i3 : ((i + 1 : Nat) : Int) ≤ ((ls[k]).length : Int) := by omega
        have hcut : N.cut ls[k] (i : Int) ((i + 1 : Nat) : Int) = [(ls[k])[i]] := cut_one ls[k] i hi
        simp only [nx, nite_pos i2, nite_pos i3, hcut]
        rw [cond_dec]
        have fin : ∀ (b0 : Bool), b0 = inT f u (ls[k])[i] → ∀ {s3 : Bool × Int → Option ((Bool × Int) ⊕ (Int ⊕ (Int ⊕ Bool)))},
            (∀ b j, (hj : j < hid.length) → s3 (b, (j : Int)) = some (.inl (b && !decide (hid[j] = ((ls[k])[i]).1), ((j + 1 : Nat) : Int)))) →
            (∀ b, s3 (b, (hid.length : Int)) = some (.inr (if decide ((ls[k])[i] ∈ r.1) = b then .inl ((i + 1 : Nat) : Int) else .inr (.inr false)))) → loopF s3 (b0, 0) = some (.inl ((i + 1 : Nat) : Int)) := fun b0 hb0 {s3} hs he => by
          have h0 := loop_upto (step := s3) hid.length (fun j (b : Bool) => (b, (j : Int))) (fun j => b0 && (hid.take j).all fun h => !decide (h = ((ls[k])[i]).1)) (.inl ((i + 1 : Nat) : Int)) (fun j hj => ?_) ?_
          · simp only [List.take_zero, List.all_nil, Bool.and_true] at h0; exact h0
          · rw [hs _ j hj, List.take_succ_eq_append_getElem hj, List.all_append, List.all_cons, List.all_nil, Bool.and_true, Bool.and_assoc]
          · rw [he, List.take_length, hwant, if_pos]
            unfold wantC
            rw [hb0]
            congr 1
            by_cases hin : ((ls[k])[i]).1 ∈ hid
            · have : (hid.all fun h => !decide (h = ((ls[k])[i]).1)) = false := by
                rw [List.all_eq_false]; exact ⟨_, hin, by simp⟩
              simp [hin, this]
            · have : (hid.all fun h => !decide (h = ((ls[k])[i]).1)) = true := by
                rw [List.all_eq_true]; intro h hh'; simp; intro e; subst e; exact hin hh'
              simp [hin, this]
        have s4 : ∀ (b : Bool) {s4 : Bool × Int → Option ((Bool × Int) ⊕ (Int ⊕ (Int ⊕ Bool)))},
            (∀ b j, (hj : j < r.1.length) → s4 (b, (j : Int)) = some (.inl (b || decide (r.1[j] = (ls[k])[i]), ((j + 1 : Nat) : Int)))) →
            (∀ b', s4 (b', (r.1.length : Int)) = some (.inr (if b' = b then .inl ((i + 1 : Nat) : Int) else .inr (.inr false)))) → loopF s4 (false, 0) = some (if decide ((ls[k])[i] ∈ r.1) = b then .inl ((i + 1 : Nat) : Int) else .inr (.inr false)) := fun b {s4} hs he => by
          refine loop_upto r.1.length (fun j (b : Bool) => (b, (j : Int))) (fun j => (r.1.take j).any fun h => decide (h = (ls[k])[i])) _ (fun j hj => ?_) ?_
          · rw [hs _ j hj, List.take_succ_eq_append_getElem hj, List.any_append, List.any_cons, List.any_nil, Bool.or_false]
          · rw [he, List.take_length]
            have : (r.1.any fun h => decide (h = (ls[k])[i])) = decide ((ls[k])[i] ∈ r.1) := by
              by_cases hin : (ls[k])[i] ∈ r.1
              · rw [decide_eq_true hin, List.any_eq_true]; exact ⟨_, hin, by simp⟩
              · rw [decide_eq_false hin, List.any_eq_false]; intro h hh'; simp; intro e; subst e; exact hin hh'
            rw [this]
        have st3 : ∀ (b : Bool) (j : Nat) (hj : j < hid.length), (N.cond (decide ((j : Int) < (hid.length : Int))) (N.cond b (N.ite (0 ≤ (j : Int)) (N.ite ((j : Int) < (hid.length : Int)) (some (Sum.inl (β := Int ⊕ (Int ⊕ Bool)) (decide (¬ N.rd hid (j : Int) (0, 0, 0) = ((ls[k])[i]).1), N.add .i64 (j : Int) 1))) none) none) (some (.inl (false, N.add .i64 (j : Int) 1)))) (none : Option ((Bool × Int) ⊕ (Int ⊕ (Int ⊕ Bool))))) = some (.inl (b && !decide (hid[j] = ((ls[k])[i]).1), ((j + 1 : Nat) : Int))) := fun b j hj => by
          have j1 : (j : Int) < (hid.length : Int) := by omega
          rw [decide_eq_true j1, cond_true, nite_pos (by omega), nite_pos j1, rd_at hid j hj, next_id hj (by omega)]
          cases b <;> simp [N.cond]
        have cT : ∀ {X Y : Option ((Bool × Int) ⊕ (Int ⊕ (Int ⊕ Bool)))} {j n : Nat}, j < n → N.cond (decide ((j : Int) < (n : Int))) X Y = X := fun {X Y j n} h => by rw [decide_eq_true (by omega), cond_true]
        have cF : ∀ {X Y : Option ((Bool × Int) ⊕ (Int ⊕ (Int ⊕ Bool)))} {n : Nat}, N.cond (decide ((n : Int) < (n : Int))) X Y = Y := fun {X Y n} => by rw [decide_eq_false (Int.lt_irrefl _), cond_false]
        by_cases hf : f ≤ ((ls[k])[i]).2.1
        · rw [if_pos hf]
          refine fin _ (by unfold inT; simp [hf]) (fun b j hj => ?_) (fun b => ?_)
          · have := st3 b j hj
            rw [cT hj] at this
            show N.cond _ _ _ = _
            rw [cT hj]; exact this
          · show N.cond _ _ (Option.map Sum.inr _) = _
            rw [cF, s4 b (fun b' j hj => ?_) (fun b' => ?_)]
            · rfl
            · show N.cond _ _ _ = _
              have j1 : (j : Int) ≤ ((j + 1 : Nat) : Int) := by omega
              have j2 : ((j + 1 : Nat) : Int) ≤ (r.1.length : Int) := by omega
              have hcj : ok [r.1[j]] := ⟨by simp, fun z hz => by simp only [List.mem_singleton] at hz; subst hz; exact hq.ed.1.2 _ (List.getElem_mem hj)⟩
              rw [cT hj]
              simp only [next_id hj (show (r.1.length : Int) < 9223372036854775808 by omega), nite_pos (show (0 : Int) ≤ (j : Int) by omega), nite_pos j1, nite_pos j2, show N.cut r.1 (j : Int) ((j + 1 : Nat) : Int) = [r.1[j]] from cut_one r.1 j hj, impl_EqualCaptures_is hcj, bind_some']
              cases b' <;> simp [N.cond]
            · show N.cond _ _ (Option.map Sum.inr (N.cond _ _ _)) = _
              rw [cF]
              cases b' <;> cases b <;> simp [N.cond]
        · rw [if_neg hf]
          refine fin _ (by unfold inT; simp [hf]) (fun b j hj => ?_) (fun b => ?_)
          · have := st3 b j hj
            rw [cT hj] at this
            show N.cond _ _ _ = _
            rw [cT hj]; exact this
          · show N.cond _ _ (Option.map Sum.inr _) = _
            rw [cF, s4 b (fun b' j hj => ?_) (fun b' => ?_)]
            · rfl
            · show N.cond _ _ _ = _
              have j1 : (j : Int) ≤ ((j + 1 : Nat) : Int) := by omega
              have j2 : ((j + 1 : Nat) : Int) ≤ (r.1.length : Int) := by omega
              have hcj : ok [r.1[j]] := ⟨by simp, fun z hz => by simp only [List.mem_singleton] at hz; subst hz; exact hq.ed.1.2 _ (List.getElem_mem hj)⟩
              rw [cT hj]
              simp only [next_id hj (show (r.1.length : Int) < 9223372036854775808 by omega), nite_pos (show (0 : Int) ≤ (j : Int) by omega), nite_pos j1, nite_pos j2, show N.cut r.1 (j : Int) ((j + 1 : Nat) : Int) = [r.1[j]] from cut_one r.1 j hj, impl_EqualCaptures_is hcj, bind_some']
              cases b' <;> simp [N.cond]
            · show N.cond _ _ (Option.map Sum.inr (N.cond _ _ _)) = _
              rw [cF]
              cases b' <;> cases b <;> simp [N.cond]
      · simp only [nite_pos k0, nite_pos k1, rd_at ls k hk, next_id hk (show (ls.length : Int) < 9223372036854775808 by omega)]
        rw [decide_eq_false (Int.lt_irrefl _), cond_false]
    · simp only [lt_d, len_d]
      rw [decide_eq_false (Int.lt_irrefl _), cond_false]
      rcases hout with h | h
      · rw [h]
        cases r2.2.2.2.2 <;> rfl
      · rw [h]; rfl
end D
end Go.Sh
