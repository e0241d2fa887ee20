/- The native forms of the functions that FnExactMakeEdition reaches, and their pure laws: FnExactMakeEdition is true for every input of bounded parts. No condition beyond the bounds that every input keeps. -/
import Derived.Test.YthmpjemfgejccaaSh8
set_option linter.unusedVariables false
set_option maxRecDepth 100000
set_option maxHeartbeats 4000000
namespace Go.Sh
open Go
namespace N
def nostr : ByteArray := ByteArray.empty
def lit (l : List UInt8) : ByteArray := ⟨l.toArray⟩
def let_ {α R : Type} (x : α) (f : α → Option R) : Option R := f x
end N
namespace D
abbrev Address : Type := Int × Int × Int
abbrev Resource : Type := Int × (List Int) × Address
abbrev Capture : Type := Address × Int × Resource
abbrev Edition : Type := (List Capture) × Int × Int × (List Address)
noncomputable def laws_szIntS (x0 : List Int) (x1 : Int) : Option (Int) :=
  N.cond (N.lt (N.sub .i64 x1 (N.len x0)) 0)
    (some (-1))
    (some (N.sub .i64 x1 (N.len x0)))

noncomputable def laws_toIntS (x0 : List Int) : Option (List Int) :=
  N.ite (0 ≤ N.len x0)
    (
      N.ite (N.room (N.len x0) 8)
        (
          loopF (fun (s1 : Int × List Int) =>
              N.cond (N.lt s1.1 (N.len x0))
                (
                  N.ite (0 ≤ s1.1)
                    (
                      N.ite (s1.1 < N.len x0)
                        (
                          N.ite (0 ≤ s1.1)
                            (
                              N.ite (s1.1 < N.len s1.2)
                                (some (.inl (N.add .i64 s1.1 1, N.set s1.2 s1.1 (N.rd x0 s1.1 0))))
                                none)
                            none)
                        none)
                    none)
                (some (.inr s1.2)))
            (0, N.rep (N.len x0) 0))
        none)
    none

noncomputable def laws_eqIntS (x0 : List Int) (x1 : List Int) : Option (Bool) :=
  N.cond (N.ne (N.len x0) (N.len x1))
    (some false)
    (
      loopF (fun (s1 : Int) =>
          N.cond (N.lt s1 (N.len x0))
            (
              N.ite (0 ≤ s1)
                (
                  N.ite (s1 < N.len x0)
                    (
                      N.ite (0 ≤ s1)
                        (
                          N.ite (s1 < N.len x1)
                            (
                              N.cond (N.ne (N.rd x0 s1 0) (N.rd x1 s1 0))
                                (some (.inr false))
                                (some (.inl (N.add .i64 s1 1))))
                            none)
                        none)
                    none)
                none)
            (some (.inr true)))
        0)

noncomputable def laws_markIntS (x0 : List Int) (x1 : Int) : Option (Int × (List Int)) :=
  loopF (fun (s1 : Int × Int × List Int) =>
      N.cond (N.lt s1.2.1 (N.len s1.2.2))
        (
          N.ite (0 ≤ s1.2.1)
            (
              N.ite (s1.2.1 < N.len s1.2.2)
                (some (.inl (N.add .i64 s1.1 1, N.add .i64 s1.2.1 1, N.set s1.2.2 s1.2.1 s1.1)))
                none)
            none)
        (some (.inr (s1.1, s1.2.2))))
    (x1, 0, x0)

noncomputable def laws_heldIntS (x0 : List Int) (x1 : Int) : Option (Int) :=
  loopF (fun (s1 : Int × Int) =>
      N.cond (N.lt s1.2 (N.len x0))
        (
          N.ite (0 ≤ s1.2)
            (
              N.ite (s1.2 < N.len x0)
                (
                  N.cond (N.ne (N.rd x0 s1.2 0) s1.1)
                    (some (.inr (-1)))
                    (some (.inl (N.add .i64 s1.1 1, N.add .i64 s1.2 1))))
                none)
            none)
        (some (.inr s1.1)))
    (x1, 0)

noncomputable def spec_l1In (x0 : Int) (x1 : Int) (x2 : Int) : Option (Bool) :=
  N.cond (N.ge x0 x1)
    (some (N.le x0 x2))
    (some false)

noncomputable def spec_IsAddress (x0 : Address) : Option (Bool) :=
  N.bind (spec_l1In x0.1 1 9) fun r1 =>
    N.cond r1
      (
        N.bind (spec_l1In x0.2.1 0 99) fun r2 =>
          N.cond r2
            (
              N.bind (spec_l1In x0.2.2 0 99) fun r3 =>
                some r3)
            (some false))
      (some false)

noncomputable def impl_InRange (x0 : Int) (x1 : Int) (x2 : Int) : Option (Bool) :=
  N.cond (N.le x1 x0)
    (some (N.le x0 x2))
    (some false)

noncomputable def impl_allIn (x0 : List Int) (x1 : Int) (x2 : Int) : Option (Bool) :=
  loopF (fun (s1 : Int) =>
      N.cond (N.lt s1 (N.len x0))
        (
          N.ite (0 ≤ s1)
            (
              N.ite (s1 < N.len x0)
                (
                  N.bind (impl_InRange (N.rd x0 s1 0) x1 x2) fun r1 =>
                    N.cond (N.not r1)
                      (some (.inr false))
                      (some (.inl (N.add .i64 s1 1))))
                none)
            none)
        (some (.inr true)))
    0

noncomputable def slices_Clone_int (x0 : List Int) : Option (List Int) :=
  N.nilc (N.isE x0)
    (some [])
    (
      N.ite (N.fits [] x0 8)
        (some (N.app [] x0))
        none)

noncomputable def impl_IsAddress (x0 : Address) : Option (Bool) :=
  N.bind (impl_InRange x0.1 1 9) fun r1 =>
    N.cond r1
      (
        N.bind (impl_InRange x0.2.1 0 99) fun r2 =>
          N.cond r2
            (
              N.bind (impl_InRange x0.2.2 0 99) fun r3 =>
                some r3)
            (some false))
      (some false)

noncomputable def laws_eqAddress (x0 : Address) (x1 : Address) : Option (Bool) :=
  N.cond (N.ne x0.1 x1.1)
    (some false)
    (
      N.cond (N.ne x0.2.1 x1.2.1)
        (some false)
        (
          N.cond (N.ne x0.2.2 x1.2.2)
            (some false)
            (some true)))

noncomputable def laws_toAddress (x0 : Address) : Option (Address) :=
  some x0

noncomputable def laws_szResource (x0 : Resource) (x1 : Int) : Option (Int) :=
  N.bind (laws_szIntS x0.2.1 x1) fun r1 =>
    N.cond (N.lt r1 0)
      (some (-1))
      (some r1)

noncomputable def laws_szCapture (x0 : Capture) (x1 : Int) : Option (Int) :=
  N.bind (laws_szResource x0.2.2 x1) fun r1 =>
    N.cond (N.lt r1 0)
      (some (-1))
      (some r1)

noncomputable def laws_szCaptureS (x0 : List Capture) (x1 : Int) : Option (Int) :=
  N.cond (N.lt (N.sub .i64 x1 (N.len x0)) 0)
    (some (-1))
    (
      loopF (fun (s1 : Int × Int) =>
          N.cond (N.lt s1.2 (N.len x0))
            (
              N.ite (0 ≤ s1.2)
                (
                  N.ite (s1.2 < N.len x0)
                    (
                      N.bind (laws_szCapture (N.rd x0 s1.2 ((0, 0, 0), 0, (0, [], (0, 0, 0)))) s1.1) fun r1 =>
                        N.cond (N.lt r1 0)
                          (some (.inr (-1)))
                          (some (.inl (r1, N.add .i64 s1.2 1))))
                    none)
                none)
            (some (.inr s1.1)))
        (N.sub .i64 x1 (N.len x0), 0))

noncomputable def laws_toResource (x0 : Resource) : Option (Int × (List Int) × Int × Int × Int) :=
  N.bind (laws_toIntS x0.2.1) fun r1 =>
    N.bind (laws_toAddress x0.2.2) fun r2 =>
      some (x0.1, r1, r2.1, r2.2.1, r2.2.2)

noncomputable def laws_toCapture (x0 : Capture) : Option (Int × Int × Int × Int × Int × (List Int) × Int × Int × Int) :=
  N.bind (laws_toAddress x0.1) fun r1 =>
    N.bind (laws_toResource x0.2.2) fun r2 =>
      some (r1.1, r1.2.1, r1.2.2, x0.2.1, r2.1, r2.2.1, r2.2.2.1, r2.2.2.2.1, r2.2.2.2.2)

noncomputable def laws_toCaptureS (x0 : List Capture) : Option (List Capture) :=
  N.ite (0 ≤ N.len x0)
    (
      N.ite (N.room (N.len x0) 88)
        (
          loopF (fun (s1 : Int × List Capture) =>
              N.cond (N.lt s1.1 (N.len x0))
                (
                  N.ite (0 ≤ s1.1)
                    (
                      N.ite (s1.1 < N.len x0)
                        (
                          N.bind (laws_toCapture (N.rd x0 s1.1 ((0, 0, 0), 0, (0, [], (0, 0, 0))))) fun r1 =>
                            N.ite (0 ≤ s1.1)
                              (
                                N.ite (s1.1 < N.len s1.2)
                                  (some (.inl (N.add .i64 s1.1 1, N.set s1.2 s1.1 ((r1.1, r1.2.1, r1.2.2.1), r1.2.2.2.1, (r1.2.2.2.2.1, r1.2.2.2.2.2.1, (r1.2.2.2.2.2.2.1, r1.2.2.2.2.2.2.2.1, r1.2.2.2.2.2.2.2.2))))))
                                  none)
                              none)
                        none)
                    none)
                (some (.inr s1.2)))
            (0, N.rep (N.len x0) ((0, 0, 0), 0, (0, [], (0, 0, 0)))))
        none)
    none

noncomputable def spec_l5Copy (x0 : Resource) : Option (Int × (List Int) × Int × Int × Int) :=
  N.ite (N.fits [] x0.2.1 8)
    (some (x0.1, N.app [] x0.2.1, x0.2.2.1, x0.2.2.2.1, x0.2.2.2.2))
    none

noncomputable def spec_l15Copy (x0 : List Capture) : Option (List Capture) :=
  loopF (fun (s1 : List Capture × Int) =>
      N.cond (N.lt s1.2 (N.len x0))
        (
          N.ite (0 ≤ s1.2)
            (
              N.ite (s1.2 < N.len x0)
                (
                  N.ite (0 ≤ s1.2)
                    (
                      N.ite (s1.2 < N.len x0)
                        (
                          N.ite (0 ≤ s1.2)
                            (
                              N.ite (s1.2 < N.len x0)
                                (
                                  N.bind (spec_l5Copy ((N.rd x0 s1.2 ((0, 0, 0), 0, (0, [], (0, 0, 0)))).2.2)) fun r1 =>
                                    N.ite (N.fits s1.1 [((N.rd x0 s1.2 ((0, 0, 0), 0, (0, [], (0, 0, 0)))).1, (N.rd x0 s1.2 ((0, 0, 0), 0, (0, [], (0, 0, 0)))).2.1, (r1.1, r1.2.1, (r1.2.2.1, r1.2.2.2.1, r1.2.2.2.2)))] 88)
                                      (some (.inl (N.app s1.1 [((N.rd x0 s1.2 ((0, 0, 0), 0, (0, [], (0, 0, 0)))).1, (N.rd x0 s1.2 ((0, 0, 0), 0, (0, [], (0, 0, 0)))).2.1, (r1.1, r1.2.1, (r1.2.2.1, r1.2.2.2.1, r1.2.2.2.2)))], N.add .i64 s1.2 1)))
                                      none)
                                none)
                            none)
                        none)
                    none)
                none)
            none)
        (some (.inr s1.1)))
    ([], 0)

noncomputable def impl_copyResource (x0 : Resource) : Option (Int × (List Int) × Int × Int × Int) :=
  N.bind (slices_Clone_int x0.2.1) fun r1 =>
    some (x0.1, r1, x0.2.2.1, x0.2.2.2.1, x0.2.2.2.2)

noncomputable def impl_copyCaptures (x0 : List Capture) : Option (List Capture) :=
  loopF (fun (s1 : List Capture × Int) =>
      N.cond (N.lt s1.2 (N.len x0))
        (
          N.ite (0 ≤ s1.2)
            (
              N.ite (s1.2 < N.len x0)
                (
                  N.bind (impl_copyResource ((N.rd x0 s1.2 ((0, 0, 0), 0, (0, [], (0, 0, 0)))).2.2)) fun r1 =>
                    N.ite (N.fits s1.1 [((N.rd x0 s1.2 ((0, 0, 0), 0, (0, [], (0, 0, 0)))).1, (N.rd x0 s1.2 ((0, 0, 0), 0, (0, [], (0, 0, 0)))).2.1, (r1.1, r1.2.1, (r1.2.2.1, r1.2.2.2.1, r1.2.2.2.2)))] 88)
                      (some (.inl (N.app s1.1 [((N.rd x0 s1.2 ((0, 0, 0), 0, (0, [], (0, 0, 0)))).1, (N.rd x0 s1.2 ((0, 0, 0), 0, (0, [], (0, 0, 0)))).2.1, (r1.1, r1.2.1, (r1.2.2.1, r1.2.2.2.1, r1.2.2.2.2)))], N.add .i64 s1.2 1)))
                      none)
                none)
            none)
        (some (.inr s1.1)))
    ([], 0)

noncomputable def laws_eqResource (x0 : Resource) (x1 : Resource) : Option (Bool) :=
  N.cond (N.ne x0.1 x1.1)
    (some false)
    (
      N.bind (laws_eqIntS x0.2.1 x1.2.1) fun r1 =>
        N.cond (N.not r1)
          (some false)
          (
            N.bind (laws_eqAddress x0.2.2 x1.2.2) fun r2 =>
              N.cond (N.not r2)
                (some false)
                (some true)))

noncomputable def laws_eqCapture (x0 : Capture) (x1 : Capture) : Option (Bool) :=
  N.bind (laws_eqAddress x0.1 x1.1) fun r1 =>
    N.cond (N.not r1)
      (some false)
      (
        N.cond (N.ne x0.2.1 x1.2.1)
          (some false)
          (
            N.bind (laws_eqResource x0.2.2 x1.2.2) fun r2 =>
              N.cond (N.not r2)
                (some false)
                (some true)))

noncomputable def laws_eqCaptureS (x0 : List Capture) (x1 : List Capture) : Option (Bool) :=
  N.cond (N.ne (N.len x0) (N.len x1))
    (some false)
    (
      loopF (fun (s1 : Int) =>
          N.cond (N.lt s1 (N.len x0))
            (
              N.ite (0 ≤ s1)
                (
                  N.ite (s1 < N.len x0)
                    (
                      N.ite (0 ≤ s1)
                        (
                          N.ite (s1 < N.len x1)
                            (
                              N.bind (laws_eqCapture (N.rd x0 s1 ((0, 0, 0), 0, (0, [], (0, 0, 0)))) (N.rd x1 s1 ((0, 0, 0), 0, (0, [], (0, 0, 0))))) fun r1 =>
                                N.cond (N.not r1)
                                  (some (.inr false))
                                  (some (.inl (N.add .i64 s1 1))))
                            none)
                        none)
                    none)
                none)
            (some (.inr true)))
        0)

noncomputable def laws_markCaptureS (x0 : List Capture) (x1 : Int) : Option (Int × (List Capture)) :=
  loopF (fun (s1 : Int × Int × List Capture) =>
      N.cond (N.lt s1.2.1 (N.len s1.2.2))
        (
          N.ite (0 ≤ s1.2.1)
            (
              N.ite (s1.2.1 < N.len s1.2.2)
                (
                  N.let_ (N.set s1.2.2 s1.2.1 ((s1.1, ((N.rd s1.2.2 s1.2.1 ((0, 0, 0), 0, (0, [], (0, 0, 0)))).1).2.1, ((N.rd s1.2.2 s1.2.1 ((0, 0, 0), 0, (0, [], (0, 0, 0)))).1).2.2), (N.rd s1.2.2 s1.2.1 ((0, 0, 0), 0, (0, [], (0, 0, 0)))).2.1, (N.rd s1.2.2 s1.2.1 ((0, 0, 0), 0, (0, [], (0, 0, 0)))).2.2)) fun v1 =>
                    N.ite (0 ≤ s1.2.1)
                      (
                        N.ite (s1.2.1 < N.len v1)
                          (
                            N.let_ (N.set v1 s1.2.1 ((((N.rd v1 s1.2.1 ((0, 0, 0), 0, (0, [], (0, 0, 0)))).1).1, N.add .i64 s1.1 1, ((N.rd v1 s1.2.1 ((0, 0, 0), 0, (0, [], (0, 0, 0)))).1).2.2), (N.rd v1 s1.2.1 ((0, 0, 0), 0, (0, [], (0, 0, 0)))).2.1, (N.rd v1 s1.2.1 ((0, 0, 0), 0, (0, [], (0, 0, 0)))).2.2)) fun v2 =>
                              N.ite (0 ≤ s1.2.1)
                                (
                                  N.ite (s1.2.1 < N.len v2)
                                    (
                                      N.let_ (N.set v2 s1.2.1 ((((N.rd v2 s1.2.1 ((0, 0, 0), 0, (0, [], (0, 0, 0)))).1).1, ((N.rd v2 s1.2.1 ((0, 0, 0), 0, (0, [], (0, 0, 0)))).1).2.1, N.add .i64 (N.add .i64 s1.1 1) 1), (N.rd v2 s1.2.1 ((0, 0, 0), 0, (0, [], (0, 0, 0)))).2.1, (N.rd v2 s1.2.1 ((0, 0, 0), 0, (0, [], (0, 0, 0)))).2.2)) fun v3 =>
                                        N.ite (0 ≤ s1.2.1)
                                          (
                                            N.ite (s1.2.1 < N.len v3)
                                              (
                                                N.let_ (N.set v3 s1.2.1 ((N.rd v3 s1.2.1 ((0, 0, 0), 0, (0, [], (0, 0, 0)))).1, N.add .i64 (N.add .i64 (N.add .i64 s1.1 1) 1) 1, (N.rd v3 s1.2.1 ((0, 0, 0), 0, (0, [], (0, 0, 0)))).2.2)) fun v4 =>
                                                  N.ite (0 ≤ s1.2.1)
                                                    (
                                                      N.ite (s1.2.1 < N.len v4)
                                                        (
                                                          N.let_ (N.set v4 s1.2.1 ((N.rd v4 s1.2.1 ((0, 0, 0), 0, (0, [], (0, 0, 0)))).1, (N.rd v4 s1.2.1 ((0, 0, 0), 0, (0, [], (0, 0, 0)))).2.1, (N.add .i64 (N.add .i64 (N.add .i64 (N.add .i64 s1.1 1) 1) 1) 1, ((N.rd v4 s1.2.1 ((0, 0, 0), 0, (0, [], (0, 0, 0)))).2.2).2.1, ((N.rd v4 s1.2.1 ((0, 0, 0), 0, (0, [], (0, 0, 0)))).2.2).2.2))) fun v5 =>
                                                            N.ite (0 ≤ s1.2.1)
                                                              (
                                                                N.ite (s1.2.1 < N.len v5)
                                                                  (
                                                                    N.bind (laws_markIntS (((N.rd v5 s1.2.1 ((0, 0, 0), 0, (0, [], (0, 0, 0)))).2.2).2.1) (N.add .i64 (N.add .i64 (N.add .i64 (N.add .i64 (N.add .i64 s1.1 1) 1) 1) 1) 1)) fun r1 =>
                                                                      N.let_ (N.set v5 s1.2.1 ((N.rd v5 s1.2.1 ((0, 0, 0), 0, (0, [], (0, 0, 0)))).1, (N.rd v5 s1.2.1 ((0, 0, 0), 0, (0, [], (0, 0, 0)))).2.1, (((N.rd v5 s1.2.1 ((0, 0, 0), 0, (0, [], (0, 0, 0)))).2.2).1, r1.2, ((N.rd v5 s1.2.1 ((0, 0, 0), 0, (0, [], (0, 0, 0)))).2.2).2.2))) fun v6 =>
                                                                        N.ite (0 ≤ s1.2.1)
                                                                          (
                                                                            N.ite (s1.2.1 < N.len v6)
                                                                              (
                                                                                N.let_ (N.set v6 s1.2.1 ((N.rd v6 s1.2.1 ((0, 0, 0), 0, (0, [], (0, 0, 0)))).1, (N.rd v6 s1.2.1 ((0, 0, 0), 0, (0, [], (0, 0, 0)))).2.1, (((N.rd v6 s1.2.1 ((0, 0, 0), 0, (0, [], (0, 0, 0)))).2.2).1, ((N.rd v6 s1.2.1 ((0, 0, 0), 0, (0, [], (0, 0, 0)))).2.2).2.1, (r1.1, (((N.rd v6 s1.2.1 ((0, 0, 0), 0, (0, [], (0, 0, 0)))).2.2).2.2).2.1, (((N.rd v6 s1.2.1 ((0, 0, 0), 0, (0, [], (0, 0, 0)))).2.2).2.2).2.2)))) fun v7 =>
                                                                                  N.ite (0 ≤ s1.2.1)
                                                                                    (
                                                                                      N.ite (s1.2.1 < N.len v7)
                                                                                        (
                                                                                          N.let_ (N.set v7 s1.2.1 ((N.rd v7 s1.2.1 ((0, 0, 0), 0, (0, [], (0, 0, 0)))).1, (N.rd v7 s1.2.1 ((0, 0, 0), 0, (0, [], (0, 0, 0)))).2.1, (((N.rd v7 s1.2.1 ((0, 0, 0), 0, (0, [], (0, 0, 0)))).2.2).1, ((N.rd v7 s1.2.1 ((0, 0, 0), 0, (0, [], (0, 0, 0)))).2.2).2.1, ((((N.rd v7 s1.2.1 ((0, 0, 0), 0, (0, [], (0, 0, 0)))).2.2).2.2).1, N.add .i64 r1.1 1, (((N.rd v7 s1.2.1 ((0, 0, 0), 0, (0, [], (0, 0, 0)))).2.2).2.2).2.2)))) fun v8 =>
                                                                                            N.ite (0 ≤ s1.2.1)
                                                                                              (
                                                                                                N.ite (s1.2.1 < N.len v8)
                                                                                                  (
                                                                                                    N.let_ (N.set v8 s1.2.1 ((N.rd v8 s1.2.1 ((0, 0, 0), 0, (0, [], (0, 0, 0)))).1, (N.rd v8 s1.2.1 ((0, 0, 0), 0, (0, [], (0, 0, 0)))).2.1, (((N.rd v8 s1.2.1 ((0, 0, 0), 0, (0, [], (0, 0, 0)))).2.2).1, ((N.rd v8 s1.2.1 ((0, 0, 0), 0, (0, [], (0, 0, 0)))).2.2).2.1, ((((N.rd v8 s1.2.1 ((0, 0, 0), 0, (0, [], (0, 0, 0)))).2.2).2.2).1, (((N.rd v8 s1.2.1 ((0, 0, 0), 0, (0, [], (0, 0, 0)))).2.2).2.2).2.1, N.add .i64 (N.add .i64 r1.1 1) 1)))) fun v9 =>
                                                                                                      some (.inl (N.add .i64 (N.add .i64 (N.add .i64 r1.1 1) 1) 1, N.add .i64 s1.2.1 1, v9)))
                                                                                                  none)
                                                                                              none)
                                                                                        none)
                                                                                    none)
                                                                              none)
                                                                          none)
                                                                  none)
                                                              none)
                                                        none)
                                                    none)
                                              none)
                                          none)
                                    none)
                                none)
                          none)
                      none)
                none)
            none)
        (some (.inr (s1.1, s1.2.2))))
    (x1, 0, x0)

noncomputable def laws_heldCaptureS (x0 : List Capture) (x1 : Int) : Option (Int) :=
  loopF (fun (s1 : Int × Int) =>
      N.cond (N.lt s1.2 (N.len x0))
        (
          N.ite (0 ≤ s1.2)
            (
              N.ite (s1.2 < N.len x0)
                (
                  N.cond (N.ne (((N.rd x0 s1.2 ((0, 0, 0), 0, (0, [], (0, 0, 0)))).1).1) s1.1)
                    (some (.inr (-1)))
                    (
                      N.ite (0 ≤ s1.2)
                        (
                          N.ite (s1.2 < N.len x0)
                            (
                              N.cond (N.ne (((N.rd x0 s1.2 ((0, 0, 0), 0, (0, [], (0, 0, 0)))).1).2.1) (N.add .i64 s1.1 1))
                                (some (.inr (-1)))
                                (
                                  N.ite (0 ≤ s1.2)
                                    (
                                      N.ite (s1.2 < N.len x0)
                                        (
                                          N.cond (N.ne (((N.rd x0 s1.2 ((0, 0, 0), 0, (0, [], (0, 0, 0)))).1).2.2) (N.add .i64 (N.add .i64 s1.1 1) 1))
                                            (some (.inr (-1)))
                                            (
                                              N.ite (0 ≤ s1.2)
                                                (
                                                  N.ite (s1.2 < N.len x0)
                                                    (
                                                      N.cond (N.ne ((N.rd x0 s1.2 ((0, 0, 0), 0, (0, [], (0, 0, 0)))).2.1) (N.add .i64 (N.add .i64 (N.add .i64 s1.1 1) 1) 1))
                                                        (some (.inr (-1)))
                                                        (
                                                          N.ite (0 ≤ s1.2)
                                                            (
                                                              N.ite (s1.2 < N.len x0)
                                                                (
                                                                  N.cond (N.ne (((N.rd x0 s1.2 ((0, 0, 0), 0, (0, [], (0, 0, 0)))).2.2).1) (N.add .i64 (N.add .i64 (N.add .i64 (N.add .i64 s1.1 1) 1) 1) 1))
                                                                    (some (.inr (-1)))
                                                                    (
                                                                      N.ite (0 ≤ s1.2)
                                                                        (
                                                                          N.ite (s1.2 < N.len x0)
                                                                            (
                                                                              N.bind (laws_heldIntS (((N.rd x0 s1.2 ((0, 0, 0), 0, (0, [], (0, 0, 0)))).2.2).2.1) (N.add .i64 (N.add .i64 (N.add .i64 (N.add .i64 (N.add .i64 s1.1 1) 1) 1) 1) 1)) fun r1 =>
                                                                                N.cond (N.lt r1 0)
                                                                                  (some (.inr (-1)))
                                                                                  (
                                                                                    N.ite (0 ≤ s1.2)
                                                                                      (
                                                                                        N.ite (s1.2 < N.len x0)
                                                                                          (
                                                                                            N.cond (N.ne ((((N.rd x0 s1.2 ((0, 0, 0), 0, (0, [], (0, 0, 0)))).2.2).2.2).1) r1)
                                                                                              (some (.inr (-1)))
                                                                                              (
                                                                                                N.ite (0 ≤ s1.2)
                                                                                                  (
                                                                                                    N.ite (s1.2 < N.len x0)
                                                                                                      (
                                                                                                        N.cond (N.ne ((((N.rd x0 s1.2 ((0, 0, 0), 0, (0, [], (0, 0, 0)))).2.2).2.2).2.1) (N.add .i64 r1 1))
                                                                                                          (some (.inr (-1)))
                                                                                                          (
                                                                                                            N.ite (0 ≤ s1.2)
                                                                                                              (
                                                                                                                N.ite (s1.2 < N.len x0)
                                                                                                                  (
                                                                                                                    N.cond (N.ne ((((N.rd x0 s1.2 ((0, 0, 0), 0, (0, [], (0, 0, 0)))).2.2).2.2).2.2) (N.add .i64 (N.add .i64 r1 1) 1))
                                                                                                                      (some (.inr (-1)))
                                                                                                                      (some (.inl (N.add .i64 (N.add .i64 (N.add .i64 r1 1) 1) 1, N.add .i64 s1.2 1))))
                                                                                                                  none)
                                                                                                              none))
                                                                                                      none)
                                                                                                  none))
                                                                                          none)
                                                                                      none))
                                                                            none)
                                                                        none))
                                                                none)
                                                            none))
                                                    none)
                                                none))
                                        none)
                                    none))
                            none)
                        none))
                none)
            none)
        (some (.inr s1.1)))
    (x1, 0)

noncomputable def laws_szAddressS (x0 : List Address) (x1 : Int) : Option (Int) :=
  N.cond (N.lt (N.sub .i64 x1 (N.len x0)) 0)
    (some (-1))
    (some (N.sub .i64 x1 (N.len x0)))

noncomputable def laws_toAddressS (x0 : List Address) : Option (List Address) :=
  N.ite (0 ≤ N.len x0)
    (
      N.ite (N.room (N.len x0) 24)
        (
          loopF (fun (s1 : Int × List Address) =>
              N.cond (N.lt s1.1 (N.len x0))
                (
                  N.ite (0 ≤ s1.1)
                    (
                      N.ite (s1.1 < N.len x0)
                        (
                          N.bind (laws_toAddress (N.rd x0 s1.1 (0, 0, 0))) fun r1 =>
                            N.ite (0 ≤ s1.1)
                              (
                                N.ite (s1.1 < N.len s1.2)
                                  (some (.inl (N.add .i64 s1.1 1, N.set s1.2 s1.1 r1)))
                                  none)
                              none)
                        none)
                    none)
                (some (.inr s1.2)))
            (0, N.rep (N.len x0) (0, 0, 0)))
        none)
    none

noncomputable def laws_eqAddressS (x0 : List Address) (x1 : List Address) : Option (Bool) :=
  N.cond (N.ne (N.len x0) (N.len x1))
    (some false)
    (
      loopF (fun (s1 : Int) =>
          N.cond (N.lt s1 (N.len x0))
            (
              N.ite (0 ≤ s1)
                (
                  N.ite (s1 < N.len x0)
                    (
                      N.ite (0 ≤ s1)
                        (
                          N.ite (s1 < N.len x1)
                            (
                              N.bind (laws_eqAddress (N.rd x0 s1 (0, 0, 0)) (N.rd x1 s1 (0, 0, 0))) fun r1 =>
                                N.cond (N.not r1)
                                  (some (.inr false))
                                  (some (.inl (N.add .i64 s1 1))))
                            none)
                        none)
                    none)
                none)
            (some (.inr true)))
        0)

noncomputable def laws_eqEdition (x0 : Edition) (x1 : Edition) : Option (Bool) :=
  N.bind (laws_eqCaptureS x0.1 x1.1) fun r1 =>
    N.cond (N.not r1)
      (some false)
      (
        N.cond (N.ne x0.2.1 x1.2.1)
          (some false)
          (
            N.cond (N.ne x0.2.2.1 x1.2.2.1)
              (some false)
              (
                N.bind (laws_eqAddressS x0.2.2.2 x1.2.2.2) fun r2 =>
                  N.cond (N.not r2)
                    (some false)
                    (some true))))

noncomputable def laws_markAddressS (x0 : List Address) (x1 : Int) : Option (Int × (List Address)) :=
  loopF (fun (s1 : Int × Int × List Address) =>
      N.cond (N.lt s1.2.1 (N.len s1.2.2))
        (
          N.ite (0 ≤ s1.2.1)
            (
              N.ite (s1.2.1 < N.len s1.2.2)
                (
                  N.let_ (N.set s1.2.2 s1.2.1 (s1.1, (N.rd s1.2.2 s1.2.1 (0, 0, 0)).2.1, (N.rd s1.2.2 s1.2.1 (0, 0, 0)).2.2)) fun v1 =>
                    N.ite (0 ≤ s1.2.1)
                      (
                        N.ite (s1.2.1 < N.len v1)
                          (
                            N.let_ (N.set v1 s1.2.1 ((N.rd v1 s1.2.1 (0, 0, 0)).1, N.add .i64 s1.1 1, (N.rd v1 s1.2.1 (0, 0, 0)).2.2)) fun v2 =>
                              N.ite (0 ≤ s1.2.1)
                                (
                                  N.ite (s1.2.1 < N.len v2)
                                    (
                                      N.let_ (N.set v2 s1.2.1 ((N.rd v2 s1.2.1 (0, 0, 0)).1, (N.rd v2 s1.2.1 (0, 0, 0)).2.1, N.add .i64 (N.add .i64 s1.1 1) 1)) fun v3 =>
                                        some (.inl (N.add .i64 (N.add .i64 (N.add .i64 s1.1 1) 1) 1, N.add .i64 s1.2.1 1, v3)))
                                    none)
                                none)
                          none)
                      none)
                none)
            none)
        (some (.inr (s1.1, s1.2.2))))
    (x1, 0, x0)

noncomputable def laws_markEdition (x0 : List Capture) (x1 : Int) (x2 : Int) (x3 : List Address) (x4 : Int) : Option (Int × (List Capture) × (List Address)) :=
  N.bind (laws_markCaptureS x0 x4) fun r1 =>
    N.bind (laws_markAddressS x3 r1.1) fun r2 =>
      some (r2.1, r1.2, r2.2)

noncomputable def laws_szCaptureSS (x0 : List (List Capture)) (x1 : Int) : Option (Int) :=
  N.cond (N.lt (N.sub .i64 x1 (N.len x0)) 0)
    (some (-1))
    (
      loopF (fun (s1 : Int × Int) =>
          N.cond (N.lt s1.2 (N.len x0))
            (
              N.ite (0 ≤ s1.2)
                (
                  N.ite (s1.2 < N.len x0)
                    (
                      N.bind (laws_szCaptureS (N.rd x0 s1.2 []) s1.1) fun r1 =>
                        N.cond (N.lt r1 0)
                          (some (.inr (-1)))
                          (some (.inl (r1, N.add .i64 s1.2 1))))
                    none)
                none)
            (some (.inr s1.1)))
        (N.sub .i64 x1 (N.len x0), 0))

noncomputable def laws_toCaptureSS (x0 : List (List Capture)) : Option (List (List Capture)) :=
  N.ite (0 ≤ N.len x0)
    (
      N.ite (N.room (N.len x0) 24)
        (
          loopF (fun (s1 : Int × List (List Capture)) =>
              N.cond (N.lt s1.1 (N.len x0))
                (
                  N.ite (0 ≤ s1.1)
                    (
                      N.ite (s1.1 < N.len x0)
                        (
                          N.bind (laws_toCaptureS (N.rd x0 s1.1 [])) fun r1 =>
                            N.ite (0 ≤ s1.1)
                              (
                                N.ite (s1.1 < N.len s1.2)
                                  (some (.inl (N.add .i64 s1.1 1, N.set s1.2 s1.1 r1)))
                                  none)
                              none)
                        none)
                    none)
                (some (.inr s1.2)))
            (0, N.rep (N.len x0) []))
        none)
    none

noncomputable def spec_l5Bytes (x0 : List Int) : Option (Bool) :=
  loopF (fun (s1 : Int) =>
      N.cond (N.lt s1 (N.len x0))
        (
          N.ite (0 ≤ s1)
            (
              N.ite (s1 < N.len x0)
                (
                  N.bind (spec_l1In (N.rd x0 s1 0) 0 255) fun r1 =>
                    N.cond (N.not r1)
                      (some (.inr false))
                      (some (.inl (N.add .i64 s1 1))))
                none)
            none)
        (some (.inr true)))
    0

noncomputable def spec_IsResource (x0 : Resource) : Option (Bool) :=
  N.bind (spec_l1In x0.1 1 4) fun r1 =>
    N.cond (N.not r1)
      (some false)
      (
        N.bind (spec_l5Bytes x0.2.1) fun r2 =>
          N.cond (N.not r2)
            (some false)
            (
              N.cond (N.gt (N.len x0.2.1) 6)
                (some false)
                (
                  N.cond (N.eq x0.1 3)
                    (
                      N.bind (spec_IsAddress x0.2.2) fun r3 =>
                        N.cond r3
                          (some (N.eq (N.len x0.2.1) 0))
                          (some false))
                    (
                      N.cond (N.both (N.eq x0.2.2.1 0) (N.both (N.eq x0.2.2.2.1 0) (N.eq x0.2.2.2.2 0)))
                        (
                          N.cond (N.ne x0.1 4)
                            (some true)
                            (some (N.eq (N.len x0.2.1) 0)))
                        (some false)))))

noncomputable def spec_AreCaptures (x0 : List Capture) : Option (Bool) :=
  loopF (fun (s1 : Int) =>
      N.cond (N.lt s1 (N.len x0))
        (
          N.ite (0 ≤ s1)
            (
              N.ite (s1 < N.len x0)
                (
                  N.bind (spec_IsAddress ((N.rd x0 s1 ((0, 0, 0), 0, (0, [], (0, 0, 0)))).1)) fun r1 =>
                    N.cond (N.not r1)
                      (some (.inr false))
                      (
                        N.ite (0 ≤ s1)
                          (
                            N.ite (s1 < N.len x0)
                              (
                                N.bind (spec_l1In ((N.rd x0 s1 ((0, 0, 0), 0, (0, [], (0, 0, 0)))).2.1) 0 2000) fun r2 =>
                                  N.cond (N.not r2)
                                    (some (.inr false))
                                    (
                                      N.ite (0 ≤ s1)
                                        (
                                          N.ite (s1 < N.len x0)
                                            (
                                              N.bind (spec_IsResource ((N.rd x0 s1 ((0, 0, 0), 0, (0, [], (0, 0, 0)))).2.2)) fun r3 =>
                                                N.cond (N.not r3)
                                                  (some (.inr false))
                                                  (some (.inl (N.add .i64 s1 1))))
                                            none)
                                        none))
                              none)
                          none))
                none)
            none)
        (some (.inr (N.le (N.len x0) 20))))
    0

noncomputable def spec_l9Has (x0 : List Address) (x1 : Address) : Option (Bool) :=
  loopF (fun (s1 : Int) =>
      N.cond (N.lt s1 (N.len x0))
        (
          N.ite (0 ≤ s1)
            (
              N.ite (s1 < N.len x0)
                (
                  N.cond (N.both (N.eq ((N.rd x0 s1 (0, 0, 0)).1) x1.1) (N.both (N.eq ((N.rd x0 s1 (0, 0, 0)).2.1) x1.2.1) (N.eq ((N.rd x0 s1 (0, 0, 0)).2.2) x1.2.2)))
                    (some (.inr true))
                    (some (.inl (N.add .i64 s1 1))))
                none)
            none)
        (some (.inr false)))
    0

noncomputable def spec_l23Without (x0 : List Capture) (x1 : List Address) : Option (List Capture) :=
  loopF (fun (s1 : List Capture × Int) =>
      N.cond (N.lt s1.2 (N.len x0))
        (
          N.ite (0 ≤ s1.2)
            (
              N.ite (s1.2 < N.len x0)
                (
                  N.bind (spec_l9Has x1 ((N.rd x0 s1.2 ((0, 0, 0), 0, (0, [], (0, 0, 0)))).1)) fun r1 =>
                    N.cond (N.not r1)
                      (
                        N.ite (0 ≤ s1.2)
                          (
                            N.ite (s1.2 ≤ N.add .i64 s1.2 1)
                              (
                                N.ite (N.add .i64 s1.2 1 ≤ N.len x0)
                                  (
                                    N.bind (spec_l15Copy (N.cut x0 s1.2 (N.add .i64 s1.2 1))) fun r2 =>
                                      N.ite (N.fits s1.1 r2 88)
                                        (some (.inl (N.app s1.1 r2, N.add .i64 s1.2 1)))
                                        none)
                                  none)
                              none)
                          none)
                      (some (.inl (s1.1, N.add .i64 s1.2 1))))
                none)
            none)
        (some (.inr s1.1)))
    ([], 0)

noncomputable def spec_EqualInts (x0 : List Int) (x1 : List Int) : Option (Bool) :=
  N.cond (N.ne (N.len x0) (N.len x1))
    (some false)
    (
      loopF (fun (s1 : Int) =>
          N.cond (N.lt s1 (N.len x0))
            (
              N.ite (0 ≤ s1)
                (
                  N.ite (s1 < N.len x0)
                    (
                      N.ite (0 ≤ s1)
                        (
                          N.ite (s1 < N.len x1)
                            (
                              N.cond (N.ne (N.rd x0 s1 0) (N.rd x1 s1 0))
                                (some (.inr false))
                                (some (.inl (N.add .i64 s1 1))))
                            none)
                        none)
                    none)
                none)
            (some (.inr true)))
        0)

noncomputable def spec_EqualResources (x0 : Resource) (x1 : Resource) : Option (Bool) :=
  N.cond (N.eq x0.1 x1.1)
    (
      N.cond (N.both (N.eq x0.2.2.1 x1.2.2.1) (N.both (N.eq x0.2.2.2.1 x1.2.2.2.1) (N.eq x0.2.2.2.2 x1.2.2.2.2)))
        (
          N.bind (spec_EqualInts x0.2.1 x1.2.1) fun r1 =>
            some r1)
        (some false))
    (some false)

noncomputable def spec_l15Same (x0 : Capture) (x1 : Capture) : Option (Bool) :=
  N.cond (N.both (N.eq x0.1.1 x1.1.1) (N.both (N.eq x0.1.2.1 x1.1.2.1) (N.eq x0.1.2.2 x1.1.2.2)))
    (
      N.cond (N.eq x0.2.1 x1.2.1)
        (
          N.bind (spec_EqualResources x0.2.2 x1.2.2) fun r1 =>
            some r1)
        (some false))
    (some false)

noncomputable def spec_l20In (x0 : List Capture) (x1 : Capture) : Option (Bool) :=
  loopF (fun (s1 : Int) =>
      N.cond (N.lt s1 (N.len x0))
        (
          N.ite (0 ≤ s1)
            (
              N.ite (s1 < N.len x0)
                (
                  N.bind (spec_l15Same (N.rd x0 s1 ((0, 0, 0), 0, (0, [], (0, 0, 0)))) x1) fun r1 =>
                    N.cond r1
                      (some (.inr true))
                      (some (.inl (N.add .i64 s1 1))))
                none)
            none)
        (some (.inr false)))
    0

noncomputable def spec_MakeEdition (x0 : List (List Capture)) (x1 : Int) (x2 : Int) (x3 : List Address) : Option ((List Capture) × Int × Int × (List Address) × Bool) :=
  N.bind (spec_l1In x1 0 2000) fun r1 =>
    N.cond (N.not r1)
      (some ([], 0, 0, [], false))
      (
        N.bind (spec_l1In x2 x1 2000) fun r2 =>
          N.cond (N.not r2)
            (some ([], 0, 0, [], false))
            (
              N.ite (N.fits [] x3 24)
                (
                  loopF (fun (s1 : Int × (List Capture × Int × Int × List Address) × (List Capture × Int × Int × List Address)) =>
                      N.cond (N.lt s1.1 (N.len x0))
                        (
                          N.ite (0 ≤ s1.1)
                            (
                              N.ite (s1.1 < N.len x0)
                                (
                                  N.bind (spec_AreCaptures (N.rd x0 s1.1 [])) fun r3 =>
                                    N.cond (N.not r3)
                                      (some (.inr ([], 0, 0, [], false)))
                                      (
                                        N.ite (0 ≤ s1.1)
                                          (
                                            N.ite (s1.1 < N.len x0)
                                              (
                                                N.bind (spec_l23Without (N.rd x0 s1.1 []) x3) fun r4 =>
                                                  loopF (fun (s2 : Int × (List Capture × Int × Int × List Address)) =>
                                                      N.cond (N.lt s2.1 (N.len r4))
                                                        (
                                                          N.ite (0 ≤ s2.1)
                                                            (
                                                              N.ite (s2.1 < N.len r4)
                                                                (
                                                                  N.bind (spec_l1In ((N.rd r4 s2.1 ((0, 0, 0), 0, (0, [], (0, 0, 0)))).2.1) x1 x2) fun r5 =>
                                                                    N.cond r5
                                                                      (
                                                                        N.ite (0 ≤ s2.1)
                                                                          (
                                                                            N.ite (s2.1 < N.len r4)
                                                                              (
                                                                                N.bind (spec_l20In s2.2.1 (N.rd r4 s2.1 ((0, 0, 0), 0, (0, [], (0, 0, 0))))) fun r6 =>
                                                                                  N.cond (N.not r6)
                                                                                    (
                                                                                      N.ite (0 ≤ s2.1)
                                                                                        (
                                                                                          N.ite (s2.1 < N.len r4)
                                                                                            (
                                                                                              N.ite (N.fits s2.2.1 [N.rd r4 s2.1 ((0, 0, 0), 0, (0, [], (0, 0, 0)))] 88)
                                                                                                (some (.inl (N.add .i64 s2.1 1, (N.app s2.2.1 [N.rd r4 s2.1 ((0, 0, 0), 0, (0, [], (0, 0, 0)))], s2.2.2.1, s2.2.2.2.1, s2.2.2.2.2))))
                                                                                                none)
                                                                                            none)
                                                                                        none)
                                                                                    (some (.inl (N.add .i64 s2.1 1, s2.2))))
                                                                              none)
                                                                          none)
                                                                      (some (.inl (N.add .i64 s2.1 1, s2.2))))
                                                                none)
                                                            none)
                                                        (some (.inr (.inl (N.add .i64 s1.1 1, s1.2.1, s2.2)))))
                                                    (0, s1.2.2))
                                              none)
                                          none))
                                none)
                            none)
                        (
                          Option.map Sum.inr
                            (
                              N.bind (spec_AreCaptures s1.2.2.1) fun r7 =>
                                N.cond (N.not r7)
                                  (some ([], 0, 0, [], false))
                                  (some (s1.2.2.1, s1.2.2.2.1, s1.2.2.2.2.1, s1.2.2.2.2.2, true)))))
                    (0, ([], 0, 0, []), ([], x1, x2, N.app [] x3)))
                none))

noncomputable def slices_Clone_Address (x0 : List Address) : Option (List Address) :=
  N.nilc (N.isE x0)
    (some [])
    (
      N.ite (N.fits [] x0 24)
        (some (N.app [] x0))
        none)

noncomputable def impl_IsResource (x0 : Resource) : Option (Bool) :=
  N.cond (N.eq x0.1 1)
    (
      N.cond (N.eq x0.1 1)
        (
          N.cond (N.le (N.len x0.2.1) 6)
            (
              N.bind (impl_allIn x0.2.1 0 255) fun r1 =>
                N.cond r1
                  (some (N.both (N.eq x0.2.2.1 0) (N.both (N.eq x0.2.2.2.1 0) (N.eq x0.2.2.2.2 0))))
                  (some false))
            (some false))
        (
          N.cond (N.eq x0.1 3)
            (
              N.cond (N.eq (N.len x0.2.1) 0)
                (
                  N.bind (impl_IsAddress x0.2.2) fun r2 =>
                    some r2)
                (some false))
            (
              N.cond (N.eq x0.1 4)
                (
                  N.cond (N.eq (N.len x0.2.1) 0)
                    (some (N.both (N.eq x0.2.2.1 0) (N.both (N.eq x0.2.2.2.1 0) (N.eq x0.2.2.2.2 0))))
                    (some false))
                (some false))))
    (
      N.cond (N.eq x0.1 2)
        (
          N.cond (N.le (N.len x0.2.1) 6)
            (
              N.bind (impl_allIn x0.2.1 0 255) fun r3 =>
                N.cond r3
                  (some (N.both (N.eq x0.2.2.1 0) (N.both (N.eq x0.2.2.2.1 0) (N.eq x0.2.2.2.2 0))))
                  (some false))
            (some false))
        (
          N.cond (N.eq x0.1 3)
            (
              N.cond (N.eq (N.len x0.2.1) 0)
                (
                  N.bind (impl_IsAddress x0.2.2) fun r4 =>
                    some r4)
                (some false))
            (
              N.cond (N.eq x0.1 4)
                (
                  N.cond (N.eq (N.len x0.2.1) 0)
                    (some (N.both (N.eq x0.2.2.1 0) (N.both (N.eq x0.2.2.2.1 0) (N.eq x0.2.2.2.2 0))))
                    (some false))
                (some false))))

noncomputable def impl_AreCaptures_1 (x0 : Capture) : Option (Bool) :=
  N.bind (impl_IsAddress x0.1) fun r1 =>
    N.cond (N.not r1)
      (some true)
      (
        N.bind (impl_InRange x0.2.1 0 2000) fun r2 =>
          N.cond (N.not r2)
            (some true)
            (
              N.bind (impl_IsResource x0.2.2) fun r3 =>
                some (N.not r3)))

noncomputable def slices_IndexFunc_Capture_impl_AreCaptures_1 (x0 : List Capture) : Option (Int) :=
  loopF (fun (s1 : Int) =>
      N.cond (N.lt s1 (N.len x0))
        (
          N.ite (0 ≤ s1)
            (
              N.ite (s1 < N.len x0)
                (
                  N.bind (impl_AreCaptures_1 (N.rd x0 s1 ((0, 0, 0), 0, (0, [], (0, 0, 0))))) fun r1 =>
                    N.cond r1
                      (some (.inr s1))
                      (some (.inl (N.add .i64 s1 1))))
                none)
            none)
        (some (.inr (-1))))
    0

noncomputable def slices_ContainsFunc_Capture_impl_AreCaptures_1 (x0 : List Capture) : Option (Bool) :=
  N.bind (slices_IndexFunc_Capture_impl_AreCaptures_1 x0) fun r1 =>
    some (N.ge r1 0)

noncomputable def impl_AreCaptures (x0 : List Capture) : Option (Bool) :=
  N.cond (N.le (N.len x0) 20)
    (
      N.bind (slices_ContainsFunc_Capture_impl_AreCaptures_1 x0) fun r1 =>
        some (N.not r1))
    (some false)

noncomputable def slices_Index_Address (x0 : List Address) (x1 : Address) : Option (Int) :=
  loopF (fun (s1 : Int) =>
      N.cond (N.lt s1 (N.len x0))
        (
          N.ite (0 ≤ s1)
            (
              N.ite (s1 < N.len x0)
                (
                  N.cond (N.both (N.eq x1.1 ((N.rd x0 s1 (0, 0, 0)).1)) (N.both (N.eq x1.2.1 ((N.rd x0 s1 (0, 0, 0)).2.1)) (N.eq x1.2.2 ((N.rd x0 s1 (0, 0, 0)).2.2))))
                    (some (.inr s1))
                    (some (.inl (N.add .i64 s1 1))))
                none)
            none)
        (some (.inr (-1))))
    0

noncomputable def slices_Contains_Address (x0 : List Address) (x1 : Address) : Option (Bool) :=
  N.bind (slices_Index_Address x0 x1) fun r1 =>
    some (N.ge r1 0)

noncomputable def slices_Equal_int (x0 : List Int) (x1 : List Int) : Option (Bool) :=
  N.cond (N.ne (N.len x0) (N.len x1))
    (some false)
    (
      loopF (fun (s1 : Int) =>
          N.cond (N.lt s1 (N.len x0))
            (
              N.ite (0 ≤ s1)
                (
                  N.ite (s1 < N.len x0)
                    (
                      N.ite (0 ≤ s1)
                        (
                          N.ite (s1 < N.len x1)
                            (
                              N.cond (N.ne (N.rd x0 s1 0) (N.rd x1 s1 0))
                                (some (.inr false))
                                (some (.inl (N.add .i64 s1 1))))
                            none)
                        none)
                    none)
                none)
            (some (.inr true)))
        0)

noncomputable def impl_EqualResources (x0 : Resource) (x1 : Resource) : Option (Bool) :=
  N.cond (N.eq x0.1 x1.1)
    (
      N.cond (N.both (N.eq x0.2.2.1 x1.2.2.1) (N.both (N.eq x0.2.2.2.1 x1.2.2.2.1) (N.eq x0.2.2.2.2 x1.2.2.2.2)))
        (
          N.bind (slices_Equal_int x0.2.1 x1.2.1) fun r1 =>
            some r1)
        (some false))
    (some false)

noncomputable def impl_sameCapture (x0 : Capture) (x1 : Capture) : Option (Bool) :=
  N.cond (N.both (N.eq x0.1.1 x1.1.1) (N.both (N.eq x0.1.2.1 x1.1.2.1) (N.eq x0.1.2.2 x1.1.2.2)))
    (
      N.cond (N.eq x0.2.1 x1.2.1)
        (
          N.bind (impl_EqualResources x0.2.2 x1.2.2) fun r1 =>
            some r1)
        (some false))
    (some false)

noncomputable def impl_hasCapture_1 (x0 : Capture) (x1 : Capture) : Option (Bool) :=
  N.bind (impl_sameCapture x0 x1) fun r1 =>
    some r1

noncomputable def slices_IndexFunc_Capture_impl_hasCapture_1 (x0 : List Capture) (x1 : Capture) : Option (Int) :=
  loopF (fun (s1 : Int) =>
      N.cond (N.lt s1 (N.len x0))
        (
          N.ite (0 ≤ s1)
            (
              N.ite (s1 < N.len x0)
                (
                  N.bind (impl_hasCapture_1 (N.rd x0 s1 ((0, 0, 0), 0, (0, [], (0, 0, 0)))) x1) fun r1 =>
                    N.cond r1
                      (some (.inr s1))
                      (some (.inl (N.add .i64 s1 1))))
                none)
            none)
        (some (.inr (-1))))
    0

noncomputable def slices_ContainsFunc_Capture_impl_hasCapture_1 (x0 : List Capture) (x1 : Capture) : Option (Bool) :=
  N.bind (slices_IndexFunc_Capture_impl_hasCapture_1 x0 x1) fun r1 =>
    some (N.ge r1 0)

noncomputable def impl_hasCapture (x0 : List Capture) (x1 : Capture) : Option (Bool) :=
  N.bind (slices_ContainsFunc_Capture_impl_hasCapture_1 x0 x1) fun r1 =>
    some r1

noncomputable def impl_AddCaptures (x0 : List Capture) (x1 : List Capture) : Option ((List Capture) × Bool) :=
  N.bind (impl_copyCaptures x0) fun r1 =>
    loopF (fun (s1 : List Capture × Int) =>
        N.cond (N.lt s1.2 (N.len x1))
          (
            N.ite (0 ≤ s1.2)
              (
                N.ite (s1.2 < N.len x1)
                  (
                    N.bind (impl_hasCapture s1.1 (N.rd x1 s1.2 ((0, 0, 0), 0, (0, [], (0, 0, 0))))) fun r2 =>
                      N.cond (N.not r2)
                        (
                          N.bind (impl_copyResource ((N.rd x1 s1.2 ((0, 0, 0), 0, (0, [], (0, 0, 0)))).2.2)) fun r3 =>
                            N.ite (N.fits s1.1 [((N.rd x1 s1.2 ((0, 0, 0), 0, (0, [], (0, 0, 0)))).1, (N.rd x1 s1.2 ((0, 0, 0), 0, (0, [], (0, 0, 0)))).2.1, (r3.1, r3.2.1, (r3.2.2.1, r3.2.2.2.1, r3.2.2.2.2)))] 88)
                              (some (.inl (N.app s1.1 [((N.rd x1 s1.2 ((0, 0, 0), 0, (0, [], (0, 0, 0)))).1, (N.rd x1 s1.2 ((0, 0, 0), 0, (0, [], (0, 0, 0)))).2.1, (r3.1, r3.2.1, (r3.2.2.1, r3.2.2.2.1, r3.2.2.2.2)))], N.add .i64 s1.2 1)))
                              none)
                        (some (.inl (s1.1, N.add .i64 s1.2 1))))
                  none)
              none)
          (
            Option.map Sum.inr
              (
                N.bind (impl_AreCaptures s1.1) fun r4 =>
                  N.cond (N.not r4)
                    (
                      N.bind (impl_copyCaptures x0) fun r5 =>
                        some (r5, false))
                    (some (s1.1, true)))))
      (r1, 0)

noncomputable def impl_MakeEdition (x0 : List (List Capture)) (x1 : Int) (x2 : Int) (x3 : List Address) : Option ((List Capture) × Int × Int × (List Address) × Bool) :=
  N.bind (impl_InRange x1 0 2000) fun r1 =>
    N.cond (N.not r1)
      (some ([], 0, 0, [], false))
      (
        N.bind (impl_InRange x2 x1 2000) fun r2 =>
          N.cond (N.not r2)
            (some ([], 0, 0, [], false))
            (
              N.bind (slices_Clone_Address x3) fun r3 =>
                loopF (fun (s1 : Int × (List Capture × Int × Int × List Address) × (List Capture × Int × Int × List Address)) =>
                    N.cond (N.lt s1.1 (N.len x0))
                      (
                        N.ite (0 ≤ s1.1)
                          (
                            N.ite (s1.1 < N.len x0)
                              (
                                N.bind (impl_AreCaptures (N.rd x0 s1.1 [])) fun r4 =>
                                  N.cond (N.not r4)
                                    (some (.inr ([], 0, 0, [], false)))
                                    (
                                      loopF (fun (s2 : List Capture × Int) =>
                                          N.cond (N.lt s2.2 (N.len (N.rd x0 s1.1 [])))
                                            (
                                              N.ite (0 ≤ s2.2)
                                                (
                                                  N.ite (s2.2 < N.len (N.rd x0 s1.1 []))
                                                    (
                                                      N.bind (impl_InRange ((N.rd (N.rd x0 s1.1 []) s2.2 ((0, 0, 0), 0, (0, [], (0, 0, 0)))).2.1) x1 x2) fun r5 =>
                                                        N.cond r5
                                                          (
                                                            N.bind (slices_Contains_Address x3 ((N.rd (N.rd x0 s1.1 []) s2.2 ((0, 0, 0), 0, (0, [], (0, 0, 0)))).1)) fun r6 =>
                                                              N.cond (N.not r6)
                                                                (
                                                                  N.ite (N.fits s2.1 [N.rd (N.rd x0 s1.1 []) s2.2 ((0, 0, 0), 0, (0, [], (0, 0, 0)))] 88)
                                                                    (some (.inl (N.app s2.1 [N.rd (N.rd x0 s1.1 []) s2.2 ((0, 0, 0), 0, (0, [], (0, 0, 0)))], N.add .i64 s2.2 1)))
                                                                    none)
                                                                (some (.inl (s2.1, N.add .i64 s2.2 1))))
                                                          (some (.inl (s2.1, N.add .i64 s2.2 1))))
                                                    none)
                                                none)
                                            (
                                              Option.map Sum.inr
                                                (
                                                  N.bind (impl_AddCaptures s1.2.2.1 s2.1) fun r7 =>
                                                    N.cond (N.not r7.2)
                                                      (some (.inr ([], 0, 0, [], false)))
                                                      (some (.inl (N.add .i64 s1.1 1, s1.2.1, (r7.1, s1.2.2.2.1, s1.2.2.2.2.1, s1.2.2.2.2.2)))))))
                                        ([], 0)))
                              none)
                          none)
                      (some (.inr (s1.2.2.1, s1.2.2.2.1, s1.2.2.2.2.1, s1.2.2.2.2.2, true))))
                  (0, ([], 0, 0, []), ([], x1, x2, r3))))

noncomputable def laws_eqCaptureSS (x0 : List (List Capture)) (x1 : List (List Capture)) : Option (Bool) :=
  N.cond (N.ne (N.len x0) (N.len x1))
    (some false)
    (
      loopF (fun (s1 : Int) =>
          N.cond (N.lt s1 (N.len x0))
            (
              N.ite (0 ≤ s1)
                (
                  N.ite (s1 < N.len x0)
                    (
                      N.ite (0 ≤ s1)
                        (
                          N.ite (s1 < N.len x1)
                            (
                              N.bind (laws_eqCaptureS (N.rd x0 s1 []) (N.rd x1 s1 [])) fun r1 =>
                                N.cond (N.not r1)
                                  (some (.inr false))
                                  (some (.inl (N.add .i64 s1 1))))
                            none)
                        none)
                    none)
                none)
            (some (.inr true)))
        0)

noncomputable def laws_markCaptureSS (x0 : List (List Capture)) (x1 : Int) : Option (Int × (List (List Capture))) :=
  loopF (fun (s1 : Int × Int × List (List Capture)) =>
      N.cond (N.lt s1.2.1 (N.len s1.2.2))
        (
          N.ite (0 ≤ s1.2.1)
            (
              N.ite (s1.2.1 < N.len s1.2.2)
                (
                  N.bind (laws_markCaptureS (N.rd s1.2.2 s1.2.1 []) s1.1) fun r1 =>
                    N.let_ (N.set s1.2.2 s1.2.1 r1.2) fun v1 =>
                      some (.inl (r1.1, N.add .i64 s1.2.1 1, v1)))
                none)
            none)
        (some (.inr (s1.1, s1.2.2))))
    (x1, 0, x0)

noncomputable def laws_heldAddressS (x0 : List Address) (x1 : Int) : Option (Int) :=
  loopF (fun (s1 : Int × Int) =>
      N.cond (N.lt s1.2 (N.len x0))
        (
          N.ite (0 ≤ s1.2)
            (
              N.ite (s1.2 < N.len x0)
                (
                  N.cond (N.ne ((N.rd x0 s1.2 (0, 0, 0)).1) s1.1)
                    (some (.inr (-1)))
                    (
                      N.ite (0 ≤ s1.2)
                        (
                          N.ite (s1.2 < N.len x0)
                            (
                              N.cond (N.ne ((N.rd x0 s1.2 (0, 0, 0)).2.1) (N.add .i64 s1.1 1))
                                (some (.inr (-1)))
                                (
                                  N.ite (0 ≤ s1.2)
                                    (
                                      N.ite (s1.2 < N.len x0)
                                        (
                                          N.cond (N.ne ((N.rd x0 s1.2 (0, 0, 0)).2.2) (N.add .i64 (N.add .i64 s1.1 1) 1))
                                            (some (.inr (-1)))
                                            (some (.inl (N.add .i64 (N.add .i64 (N.add .i64 s1.1 1) 1) 1, N.add .i64 s1.2 1))))
                                        none)
                                    none))
                            none)
                        none))
                none)
            none)
        (some (.inr s1.1)))
    (x1, 0)

noncomputable def laws_heldEdition (x0 : Edition) (x1 : Int) : Option (Int) :=
  N.bind (laws_heldCaptureS x0.1 x1) fun r1 =>
    N.cond (N.lt r1 0)
      (some (-1))
      (
        N.bind (laws_heldAddressS x0.2.2.2 r1) fun r2 =>
          N.cond (N.lt r2 0)
            (some (-1))
            (some r2))

noncomputable def laws_FnExactMakeEdition (x0 : List (List Capture)) (x1 : Int) (x2 : Int) (x3 : List Address) : Option (Bool) :=
  N.bind (laws_szCaptureSS x0 1048576) fun r1 =>
    N.cond (N.lt r1 0)
      (some true)
      (
        N.bind (laws_szAddressS x3 r1) fun r2 =>
          N.cond (N.lt r2 0)
            (some true)
            (
              N.bind (laws_toCaptureSS x0) fun r3 =>
                N.bind (laws_toAddressS x3) fun r4 =>
                  N.bind (spec_MakeEdition r3 x1 x2 r4) fun r5 =>
                    N.bind (laws_toCaptureSS x0) fun r6 =>
                      N.bind (laws_toAddressS x3) fun r7 =>
                        N.bind (impl_MakeEdition r6 x1 x2 r7) fun r8 =>
                          N.bind (laws_eqEdition (r8.1, r8.2.1, r8.2.2.1, r8.2.2.2.1) (r5.1, r5.2.1, r5.2.2.1, r5.2.2.2.1)) fun r9 =>
                            N.cond (N.not r9)
                              (some false)
                              (
                                N.cond (N.neB r8.2.2.2.2 r5.2.2.2.2)
                                  (some false)
                                  (
                                    N.bind (laws_toCaptureSS x0) fun r10 =>
                                      N.bind (laws_eqCaptureSS r6 r10) fun r11 =>
                                        N.cond (N.not r11)
                                          (some false)
                                          (
                                            N.bind (laws_toAddressS x3) fun r12 =>
                                              N.bind (laws_eqAddressS r7 r12) fun r13 =>
                                                N.cond (N.not r13)
                                                  (some false)
                                                  (
                                                    N.bind (laws_markCaptureSS r6 1) fun r14 =>
                                                      N.bind (laws_markAddressS r7 r14.1) fun r15 =>
                                                        N.cond (N.lt r15.1 0)
                                                          (some false)
                                                          (
                                                            N.bind (laws_eqEdition (r8.1, r8.2.1, r8.2.2.1, r8.2.2.2.1) (r5.1, r5.2.1, r5.2.2.1, r5.2.2.2.1)) fun r16 =>
                                                              N.cond (N.not r16)
                                                                (some false)
                                                                (
                                                                  N.cond (N.neB r8.2.2.2.2 r5.2.2.2.2)
                                                                    (some false)
                                                                    (
                                                                      N.bind (laws_markEdition r8.1 r8.2.1 r8.2.2.1 r8.2.2.2.1 1) fun r17 =>
                                                                        N.bind (laws_heldEdition (r17.2.1, r8.2.1, r8.2.2.1, r17.2.2) 1) fun r18 =>
                                                                          N.cond (N.lt r18 0)
                                                                            (some false)
                                                                            (
                                                                              N.cond (N.ne r18 r17.1)
                                                                                (some false)
                                                                                (
                                                                                  N.bind (laws_toCaptureSS x0) fun r19 =>
                                                                                    N.bind (laws_toAddressS x3) fun r20 =>
                                                                                      N.bind (impl_MakeEdition r19 x1 x2 r20) fun r21 =>
                                                                                        N.bind (laws_eqEdition (r21.1, r21.2.1, r21.2.2.1, r21.2.2.2.1) (r5.1, r5.2.1, r5.2.2.1, r5.2.2.2.1)) fun r22 =>
                                                                                          N.cond (N.not r22)
                                                                                            (some false)
                                                                                            (
                                                                                              N.cond (N.neB r21.2.2.2.2 r5.2.2.2.2)
                                                                                                (some false)
                                                                                                (
                                                                                                  N.bind (laws_heldEdition (r17.2.1, r8.2.1, r8.2.2.1, r17.2.2) 1) fun r23 =>
                                                                                                    N.cond (N.lt r23 0)
                                                                                                      (some false)
                                                                                                      (
                                                                                                        N.cond (N.ne r23 r17.1)
                                                                                                          (some false)
                                                                                                          (some true)))))))))))))))

end D
end Go.Sh
set_option linter.unusedVariables false
set_option linter.unusedSimpArgs false
namespace Go.Sh
open Go
/-! ## Loops -/
theorem loopN_det {S R : Type} {step : S → Option (S ⊕ R)} : ∀ {n m : Nat} {s : S} {a b : R}, loopN step n s = some a → loopN step m s = some b → a = b
  | 0, _, _, _, _, h, _ => by simp [loopN] at h
  | _ + 1, 0, _, _, _, _, h => by simp [loopN] at h
  | n + 1, m + 1, s, a, b, h1, h2 => by
    simp only [loopN] at h1 h2
    split at h1
    · cases h1
    · rename_i s' hs; rw [hs] at h2; exact loopN_det h1 h2
    · rename_i r hr; rw [hr] at h2; simp at h1 h2; rw [← h1, ← h2]

theorem loopF_of {S R : Type} {step : S → Option (S ⊕ R)} {s : S} {n : Nat} {r : R} (h : loopN step n s = some r) : loopF step s = some r := by
  have hx : ∃ n r, loopN step n s = some r := ⟨n, r, h⟩
  unfold loopF
  rw [dif_pos hx]
  obtain ⟨m, hm⟩ := Classical.choose_spec hx |> fun h => (⟨_, Classical.choose_spec h⟩ : ∃ v, loopN step (Classical.choose hx) s = some v)
  have := Classical.choose_spec (Classical.choose_spec hx)
  rw [loopN_det this h]

theorem loopF_inr {S R : Type} {step : S → Option (S ⊕ R)} {s : S} {r : R} (h : step s = some (.inr r)) : loopF step s = some r :=
  loopF_of (n := 1) (by simp [loopN, h])

theorem loopF_inl {S R : Type} {step : S → Option (S ⊕ R)} {s s' : S} (h : step s = some (.inl s')) : loopF step s = loopF step s' := by
  by_cases hx : ∃ n r, loopN step n s' = some r
  · obtain ⟨n, r, hn⟩ := hx
    rw [loopF_of hn, loopF_of (n := n + 1) (r := r) (by simp [loopN, h, hn])]
  · have hy : ¬ ∃ n r, loopN step n s = some r := by
      rintro ⟨n, r, hn⟩
      cases n with
      | zero => simp [loopN] at hn
      | succ n => simp only [loopN, h] at hn; exact hx ⟨n, r, hn⟩
    unfold loopF
    rw [dif_neg hx, dif_neg hy]

/-- a loop over a list: what each round does -/
def each {α σ R : Type} (body : α → σ → Option (σ ⊕ R)) (fin : σ → Option R) : List α → σ → Option R
  | [], a => fin a
  | x :: xs, a => match body x a with
    | none => none
    | some (.inl a') => each body fin xs a'
    | some (.inr r) => some r

/-- counting up to n -/
theorem loop_upto {σ S R : Type} {step : S → Option (S ⊕ R)} (n : Nat) (emb : Nat → σ → S) (st : Nat → σ) (r : R)
    (hstep : ∀ k < n, step (emb k (st k)) = some (.inl (emb (k + 1) (st (k + 1))))) (hend : step (emb n (st n)) = some (.inr r)) : loopF step (emb 0 (st 0)) = some r := by
  have key : ∀ (m k : Nat), k + m = n → loopF step (emb k (st k)) = some r := by
    intro m
    induction m with
    | zero => intro k hk; have : k = n := by omega
              subst this; exact loopF_inr hend
    | succ m ih => intro k hk; rw [loopF_inl (hstep k (by omega))]; exact ih (k + 1) (by omega)
  exact key n 0 (by omega)

/-! ## Words -/

section
variable {R α β : Type}
@[simp] theorem bind_some' (x : β) (f : β → Option R) : N.bind (some x) f = f x := rfl

@[simp] theorem cond_true (x y : Option R) : N.cond true x y = x := rfl

@[simp] theorem cond_false (x y : Option R) : N.cond false x y = y := rfl

theorem cond_if (b : Bool) (x y : Option R) : N.cond b x y = if b = true then x else y := rfl

theorem cond_dec (p : Prop) [Decidable p] (x y : Option R) : N.cond (decide p) x y = if p then x else y := by unfold N.cond; by_cases h : p <;> simp [h]

theorem ite_if (c : Prop) [Decidable c] (x y : Option R) : N.ite c x y = if c then x else y := rfl

theorem nite_pos {c : Prop} [Decidable c] (h : c) (x y : Option R) : N.ite c x y = x := if_pos h

theorem lt_d (a b : Int) : N.lt a b = decide (a < b) := rfl

theorem le_d (a b : Int) : N.le a b = decide (a ≤ b) := rfl

theorem gt_d (a b : Int) : N.gt a b = decide (b < a) := rfl

theorem ge_d (a b : Int) : N.ge a b = decide (b ≤ a) := rfl

theorem eq_d (a b : Int) : N.eq a b = decide (a = b) := rfl

theorem ne_d (a b : Int) : N.ne a b = decide (¬ a = b) := by
  unfold N.ne; by_cases h : a = b <;> simp [h]

theorem len_d (xs : List α) : N.len xs = (xs.length : Int) := by simp [N.len]

theorem rd_at (xs : List α) (k : Nat) (hk : k < xs.length) (d : α) : N.rd xs (k : Int) d = xs[k] := by
  simp [N.rd, List.getD, hk]

theorem wrap_id {n : Int} (h1 : -9223372036854775808 ≤ n) (h2 : n < 9223372036854775808) : IntKind.i64.wrap n = n := by
  have e1 : ((2 : Int) ^ IntKind.i64.bits) = 18446744073709551616 := by decide
  have e2 : ((2 : Int) ^ (IntKind.i64.bits - 1)) = 9223372036854775808 := by decide
  have e3 : IntKind.i64.signed = true := rfl
  unfold IntKind.wrap
  rw [e1, e2, e3]
  simp only [Bool.true_and, decide_eq_true_eq]
  split <;> omega

theorem add_id {a b : Int} (h1 : -9223372036854775808 ≤ a + b) (h2 : a + b < 9223372036854775808) : N.add .i64 a b = a + b := wrap_id h1 h2

theorem sub_id {a b : Int} (h1 : -9223372036854775808 ≤ a - b) (h2 : a - b < 9223372036854775808) : N.sub .i64 a b = a - b := wrap_id h1 h2

theorem next_id {k n : Nat} (hk : k < n) (hn : (n : Int) < 9223372036854775808) : N.add .i64 (k : Int) 1 = ((k + 1 : Nat) : Int) := by
  rw [add_id (by omega) (by omega)]; omega

end
end Go.Sh
set_option linter.unusedVariables false
set_option linter.unusedSimpArgs false
namespace Go.Sh
open Go
/-! ## Bounds of data -/
class Data (α : Type) where
  bd : α → Prop
  ok : α → Prop
  le : ∀ x, ok x → bd x

class Flat (α : Type) [Data α] where
  fl : ∀ x : α, Data.bd x → Data.ok x

open Data
instance : Data Int := ⟨fun x => -9223372036854775808 ≤ x ∧ x < 9223372036854775808, fun x => -9223372036854775808 ≤ x ∧ x < 9223372036854775808, fun _ h => h⟩

instance : Data Bool := ⟨fun _ => True, fun _ => True, fun _ h => h⟩

instance : Data ByteArray := ⟨fun s => s.size ≤ 4611686018427387904, fun s => s.size ≤ 4611686018427387904, fun _ h => h⟩

instance {α β : Type} [Data α] [Data β] : Data (α × β) := ⟨fun x => bd x.1 ∧ bd x.2, fun x => ok x.1 ∧ ok x.2, fun x h => ⟨le _ h.1, le _ h.2⟩⟩

instance {α : Type} [Data α] : Data (List α) := ⟨fun xs => xs.length ≤ 4611686018427387904 ∧ ∀ x ∈ xs, bd x, fun xs => xs.length ≤ 1048576 ∧ ∀ x ∈ xs, ok x, fun xs h => ⟨by omega, fun x hx => le x (h.2 x hx)⟩⟩

instance : Flat Int := ⟨fun _ h => h⟩

instance : Flat Bool := ⟨fun _ h => h⟩

instance : Flat ByteArray := ⟨fun _ h => h⟩

instance {α β : Type} [Data α] [Data β] [Flat α] [Flat β] : Flat (α × β) := ⟨fun x h => ⟨Flat.fl _ h.1, Flat.fl _ h.2⟩⟩

section
variable {α : Type} [Data α]
theorem Data.ok.at {xs : List α} (h : ok xs) {k : Nat} (hk : k < xs.length) : ok xs[k] := h.2 _ (List.getElem_mem hk)

theorem Data.bd.at {xs : List α} (h : bd xs) {k : Nat} (hk : k < xs.length) : bd xs[k] := h.2 _ (List.getElem_mem hk)

theorem Data.ok.sub {xs ys : List α} (h : ok xs) (hs : ys.Sublist xs) : ok ys := ⟨Nat.le_trans hs.length_le h.1, fun x hx => h.2 x (hs.subset hx)⟩

end
/-! ## Words, once more -/

section
variable {R α β : Type}
theorem neB_d (a b : Bool) : N.neB a b = decide (¬ a = b) := by cases a <;> cases b <;> rfl

theorem not_d (p : Prop) [Decidable p] : N.not (decide p) = decide (¬ p) := by unfold N.not; by_cases h : p <;> simp [h]

theorem both_d (p q : Prop) [Decidable p] [Decidable q] : N.both (decide p) (decide q) = decide (p ∧ q) := by unfold N.both; by_cases h : p <;> by_cases h' : q <;> simp [h, h']

theorem not_b (b : Bool) : N.not b = !b := rfl

theorem cond_not (b : Bool) (x y : Option R) : N.cond (N.not b) x y = N.cond b y x := by cases b <;> rfl

/-! ## Copies -/
theorem set_grow {xs ys : List α} {k : Nat} (hk : k < xs.length) (hl : ys.length = xs.length) (h : ys.take k = xs.take k) : (ys.set k xs[k]).take (k + 1) = xs.take (k + 1) := by
  apply List.ext_getElem
  · simp [hl]
  · intro i h1 h2
    simp only [List.length_take, List.length_set] at h1 h2
    simp only [List.getElem_take, List.getElem_set]
    split
    · rename_i e; subst e; rfl
    · have hi : i < k := by omega
      have := congrArg (fun l => l[i]?) h
      simp [List.getElem?_take, hi] at this
      rw [List.getElem?_eq_getElem (by omega), List.getElem?_eq_getElem (by omega)] at this
      simpa using this

/-- an element of a list that is copied -/
def toStep (xs : List α) (d : α) (f : α → Option α) (s1 : Int × List α) : Option ((Int × List α) ⊕ List α) :=
  N.cond (N.lt s1.1 (N.len xs)) (N.ite (0 ≤ s1.1) (N.ite (s1.1 < N.len xs) (N.bind (f (N.rd xs s1.1 d)) fun r1 => N.ite (0 ≤ s1.1) (N.ite (s1.1 < N.len s1.2) (some (.inl (N.add .i64 s1.1 1, N.set s1.2 s1.1 r1))) none) none) none) none) (some (.inr s1.2))

theorem toLoop {xs : List α} {d : α} {f : α → Option α} (hf : ∀ x ∈ xs, f x = some x) (hs : xs.length ≤ 1048576) : loopF (toStep xs d f) (0, N.rep (N.len xs) d) = some xs := by
  have key : ∀ (m k : Nat) (ys : List α), k + m = xs.length → ys.length = xs.length → ys.take k = xs.take k → loopF (toStep xs d f) ((k : Int), ys) = some xs := by
    intro m
    induction m with
    | zero =>
      intro k ys hk hl ht
      refine loopF_inr ?_
      have : ys = xs := by
        rw [show k = xs.length by omega] at ht
        rw [List.take_length, ← hl, List.take_length] at ht
        exact ht
      subst this
      simp only [toStep, lt_d, len_d, cond_dec]
      rw [if_neg (by omega)]
    | succ m ih =>
      intro k ys hk hl ht
      have hlt : k < xs.length := by omega
      rw [loopF_inl (s' := (((k + 1 : Nat) : Int), ys.set k xs[k])) ?_]
      · exact ih (k + 1) _ (by omega) (by simp [hl]) (set_grow hlt hl ht)
      · simp only [toStep, ite_if]; simp only [lt_d, len_d, cond_dec]
        rw [if_pos (by omega), if_pos (by omega), if_pos (by omega), rd_at xs k hlt, hf _ (List.getElem_mem hlt), bind_some', if_pos (by omega), if_pos (by omega), next_id hlt (by omega)]
        rfl
  have := key xs.length 0 (N.rep (N.len xs) d) (by omega) (by simp [N.rep, N.len]) (by simp)
  simpa using this

theorem toS_is {xs : List α} {bytes : Nat} {d : α} {f : α → Option α} (hb : bytes ≤ 10000) (hf : ∀ x ∈ xs, f x = some x) (hs : xs.length ≤ 1048576) :
    N.ite (0 ≤ N.len xs) (N.ite (N.room (N.len xs) bytes) (loopF (toStep xs d f) (0, N.rep (N.len xs) d)) none) none = some xs := by
  rw [nite_pos (by simp [N.len]), nite_pos, toLoop hf hs]
  unfold N.room N.len
  have : (xs.length : Int) * bytes ≤ 1048576 * 10000 := Int.mul_le_mul (by omega) (by omega) (by omega) (by omega)
  omega

/-- an element that comes back as its leaves -/
theorem toS2_is {β : Type} {xs : List α} {bytes : Nat} {d : α} {f : α → Option β} {g : β → α} (hb : bytes ≤ 10000) (hf : ∀ x ∈ xs, ∃ r, f x = some r ∧ g r = x) (hs : xs.length ≤ 1048576) :
    N.ite (0 ≤ N.len xs) (N.ite (N.room (N.len xs) bytes) (loopF (fun (s1 : Int × List α) => N.cond (N.lt s1.1 (N.len xs)) (N.ite (0 ≤ s1.1) (N.ite (s1.1 < N.len xs) (N.bind (f (N.rd xs s1.1 d)) fun r1 => N.ite (0 ≤ s1.1) (N.ite (s1.1 < N.len s1.2) (some (.inl (N.add .i64 s1.1 1, N.set s1.2 s1.1 (g r1)))) none) none) none) none) (some (.inr s1.2))) (0, N.rep (N.len xs) d)) none) none = some xs := by
  have e : (fun (s1 : Int × List α) => N.cond (N.lt s1.1 (N.len xs)) (N.ite (0 ≤ s1.1) (N.ite (s1.1 < N.len xs) (N.bind (f (N.rd xs s1.1 d)) fun r1 => N.ite (0 ≤ s1.1) (N.ite (s1.1 < N.len s1.2) (some (.inl (N.add .i64 s1.1 1, N.set s1.2 s1.1 (g r1)))) none) none) none) none) (some (.inr s1.2))) = toStep xs d (fun y => (f y).map g) := by
    funext s
    unfold toStep
    show _ = N.cond _ (N.ite _ (N.ite _ (N.bind ((f (N.rd xs s.1 d)).map g) _) _) _) _
    cases f (N.rd xs s.1 d) <;> rfl
  rw [e]
  exact toS_is hb (fun x hx => by obtain ⟨r, h1, h2⟩ := hf x hx; rw [h1, Option.map_some, h2]) hs

/-! ## Comparing -/
def eqStep (xs ys : List α) (d : α) (f : α → α → Option Bool) (s1 : Int) : Option (Int ⊕ Bool) :=
  N.cond (N.lt s1 (N.len xs)) (N.ite (0 ≤ s1) (N.ite (s1 < N.len xs) (N.ite (0 ≤ s1) (N.ite (s1 < N.len ys) (N.bind (f (N.rd xs s1 d) (N.rd ys s1 d)) fun r1 => N.cond (N.not r1) (some (.inr false)) (some (.inl (N.add .i64 s1 1)))) none) none) none) none) (some (.inr true))

theorem eqLoop [DecidableEq α] {xs ys : List α} {d : α} {f : α → α → Option Bool} {r : α → α → Bool} (hf : ∀ x ∈ xs, ∀ y ∈ ys, f x y = some (r x y)) (hs : xs.length ≤ 4611686018427387904) (hl : xs.length = ys.length) :
    loopF (eqStep xs ys d f) 0 = some ((List.zip xs ys).all fun p => r p.1 p.2) := by
  have key : ∀ (m k : Nat), k + m = xs.length → loopF (eqStep xs ys d f) (k : Int) = some ((List.zip (xs.drop k) (ys.drop k)).all fun p => r p.1 p.2) := by
    intro m
    induction m with
    | zero =>
      intro k hk
      rw [loopF_inr (r := true) ?_]
      · rw [List.drop_eq_nil_of_le (by omega)]; simp
      · simp only [eqStep, lt_d, len_d, cond_dec]; rw [if_neg (by omega)]
    | succ m ih =>
      intro k hk
      have hlt : k < xs.length := by omega
      have hlt' : k < ys.length := by omega
      rw [List.drop_eq_getElem_cons hlt, List.drop_eq_getElem_cons hlt']
      have hst : eqStep xs ys d f (k : Int) = N.cond (N.not (r xs[k] ys[k])) (some (.inr false)) (some (.inl ((k + 1 : Nat) : Int))) := by
        simp only [eqStep, ite_if]; simp only [lt_d, len_d, cond_dec]
        rw [if_pos (by omega), if_pos (by omega), if_pos (by omega), if_pos (by omega), if_pos (by omega), rd_at xs k hlt, rd_at ys k hlt', hf _ (List.getElem_mem hlt) _ (List.getElem_mem hlt'), bind_some', next_id hlt (by omega)]
      cases hr : r xs[k] ys[k] with
      | true => rw [loopF_inl (s' := ((k + 1 : Nat) : Int)) (by rw [hst, hr]; rfl), ih (k + 1) (by omega)]; simp only [List.zip_cons_cons, List.all_cons, hr, Bool.true_and]
      | false => rw [loopF_inr (r := false) (by rw [hst, hr]; rfl)]; simp only [List.zip_cons_cons, List.all_cons, hr, Bool.false_and]
  simpa using key xs.length 0 (by omega)

theorem zip_all_eq [DecidableEq α] : ∀ {xs ys : List α}, xs.length = ys.length → ((List.zip xs ys).all fun p => decide (p.1 = p.2)) = decide (xs = ys)
  | [], [], _ => by simp
  | x :: xs, y :: ys, h => by
    simp only [List.zip_cons_cons, List.all_cons, zip_all_eq (xs := xs) (ys := ys) (by simpa using h)]
    by_cases h1 : x = y <;> by_cases h2 : xs = ys <;> simp [h1, h2]
  | [], _ :: _, h => by simp at h
  | _ :: _, [], h => by simp at h

theorem eqS_is [DecidableEq α] {xs ys : List α} {d : α} {f : α → α → Option Bool} (hf : ∀ x ∈ xs, ∀ y, f x y = some (decide (x = y))) (hs : xs.length ≤ 4611686018427387904) :
    N.cond (N.ne (N.len xs) (N.len ys)) (some false) (loopF (eqStep xs ys d f) 0) = some (decide (xs = ys)) := by
  simp only [ne_d, len_d, cond_dec]
  split
  · rename_i h
    have : ¬ xs = ys := fun e => h (by rw [e])
    simp [this]
  · rename_i h
    have hl : xs.length = ys.length := by omega
    rw [eqLoop (r := fun x y => decide (x = y)) (fun x hx y _ => hf x hx y) hs hl, zip_all_eq hl]

/-! ## Sizes -/
def SzOk [Data α] (f : α → Int → Option Int) : Prop := ∀ x left, bd x → 0 ≤ left → left ≤ 1048576 → ∃ r, f x left = some r ∧ (r < 0 ∨ (ok x ∧ 0 ≤ r ∧ r ≤ left))

theorem szFlat_is [Data α] [Flat α] : SzOk (fun (xs : List α) (left : Int) => N.cond (N.lt (N.sub .i64 left (N.len xs)) 0) (some (-1)) (some (N.sub .i64 left (N.len xs)))) := by
  intro xs left hb h0 h1
  have h2 := hb.1
  simp only [len_d, lt_d, cond_dec, sub_id (a := left) (b := (xs.length : Int)) (by omega) (by omega)]
  split
  · exact ⟨-1, rfl, .inl (by omega)⟩
  · exact ⟨_, rfl, .inr ⟨⟨by omega, fun x hx => Flat.fl x (hb.2 x hx)⟩, by omega, by omega⟩⟩

def szStep (xs : List α) (d : α) (f : α → Int → Option Int) (s1 : Int × Int) : Option ((Int × Int) ⊕ Int) :=
  N.cond (N.lt s1.2 (N.len xs)) (N.ite (0 ≤ s1.2) (N.ite (s1.2 < N.len xs) (N.bind (f (N.rd xs s1.2 d) s1.1) fun r1 => N.cond (N.lt r1 0) (some (.inr (-1))) (some (.inl (r1, N.add .i64 s1.2 1)))) none) none) (some (.inr s1.1))

theorem szNest_is [Data α] {d : α} {f : α → Int → Option Int} (hf : SzOk f) : SzOk (fun (xs : List α) (left : Int) => N.cond (N.lt (N.sub .i64 left (N.len xs)) 0) (some (-1)) (loopF (szStep xs d f) (N.sub .i64 left (N.len xs), 0))) := by
  intro xs left hb h0 h1
  have h2 := hb.1
  simp only [len_d, lt_d, cond_dec, sub_id (a := left) (b := (xs.length : Int)) (by omega) (by omega)]
  split
  · exact ⟨-1, rfl, .inl (by omega)⟩
  · have key : ∀ (m k : Nat) (l : Int), k + m = xs.length → 0 ≤ l → l ≤ 1048576 → ∃ r, loopF (szStep xs d f) (l, (k : Int)) = some r ∧ (r < 0 ∨ ((∀ x ∈ xs.drop k, ok x) ∧ 0 ≤ r ∧ r ≤ l)) := by
      intro m
      induction m with
      | zero =>
        intro k l hk hl0 hl1
        refine ⟨l, loopF_inr ?_, .inr ⟨fun x hx => ?_, hl0, by omega⟩⟩
        · simp only [szStep, lt_d, len_d, cond_dec]; rw [if_neg (by omega)]
        · rw [List.drop_eq_nil_of_le (by omega)] at hx; cases hx
      | succ m ih =>
        intro k l hk hl0 hl1
        have hlt : k < xs.length := by omega
        obtain ⟨r, e, h⟩ := hf xs[k] l (hb.at hlt) hl0 hl1
        have hst : szStep xs d f (l, (k : Int)) = if r < 0 then some (.inr (-1)) else some (.inl (r, ((k + 1 : Nat) : Int))) := by
          simp only [szStep, ite_if]; simp only [lt_d, len_d, cond_dec]
          rw [if_pos (by omega), if_pos (by omega), if_pos (by omega), rd_at xs k hlt, e, bind_some', next_id hlt (by omega)]
        rcases h with h | ⟨h3, h4, h5⟩
        · exact ⟨-1, loopF_inr (by rw [hst, if_pos h]), .inl (by omega)⟩
        · obtain ⟨r2, e2, h6⟩ := ih (k + 1) r (by omega) h4 (by omega)
          refine ⟨r2, by rw [loopF_inl (by rw [hst, if_neg (by omega)]), e2], h6.imp id fun ⟨h7, h8, h9⟩ => ⟨fun x hx => ?_, h8, by omega⟩⟩
          rw [List.drop_eq_getElem_cons hlt] at hx
          rcases List.mem_cons.1 hx with rfl | hx
          · exact h3
          · exact h7 x hx
    obtain ⟨r, e, h⟩ := key xs.length 0 (left - xs.length) (by omega) (by omega) (by omega)
    refine ⟨r, e, h.imp id fun ⟨h7, h8, h9⟩ => ⟨⟨by omega, by simpa using h7⟩, h8, by omega⟩⟩

end
end Go.Sh
set_option linter.unusedVariables false
set_option linter.unusedSimpArgs false
set_option synthInstance.maxSize 100000
set_option maxHeartbeats 1000000
namespace Go.Sh
open Go Data
namespace D
theorem laws_szIntS_is : SzOk laws_szIntS := szFlat_is

theorem laws_toIntS_is (x : List Int) (h : ok x) : laws_toIntS x = some x := by
  unfold laws_toIntS
  exact toS_is (d := 0) (f := fun y => some y) (by decide) (fun y hy => rfl) h.1

theorem laws_eqIntS_is (x y : List Int) (h : ok x) : laws_eqIntS x y = some (decide (x = y)) := by
  have e : laws_eqIntS x y = N.cond (N.ne (N.len x) (N.len y)) (some false) (loopF (eqStep x y 0 fun a b => some (decide (a = b))) 0) := by
    unfold laws_eqIntS
    congr 2 <;> (funext s; simp only [eqStep, bind_some', ne_d, not_d, cond_dec]; try simp only [ite_not])
  rw [e]
  exact eqS_is (fun a ha b => rfl) (by have := h.1; omega)

theorem laws_eqAddress_is (x y : Address) (h : ok x) : laws_eqAddress x y = some (decide (x = y)) := by
  obtain ⟨a0, a1, a2⟩ := x; obtain ⟨b0, b1, b2⟩ := y
  unfold laws_eqAddress
  simp only [ne_d, neB_d, not_d, cond_dec, Prod.mk.injEq]
  by_cases e0 : a0 = b0 <;> by_cases e1 : a1 = b1 <;> by_cases e2 : a2 = b2 <;> simp [e0, e1, e2]

theorem laws_toAddress_is (x : Address) (h : ok x) : laws_toAddress x = some x := rfl

theorem laws_szResource_is : SzOk laws_szResource := by
  intro x left hb h0 h1
  unfold laws_szResource
  obtain ⟨r0, e0, g0⟩ := laws_szIntS_is _ left hb.2.1 h0 h1
  rw [e0, bind_some']
  rcases g0 with g0 | ⟨k0, l0, m0⟩
  · exact ⟨-1, by (try simp only [lt_d, cond_dec]); rw [if_pos g0], .inl (by omega)⟩
  (try simp only [lt_d, cond_dec]); rw [if_neg (by omega)]
  exact ⟨_, rfl, .inr ⟨⟨Flat.fl _ hb.1, k0, Flat.fl _ hb.2.2⟩, by omega, by omega⟩⟩

theorem laws_szCapture_is : SzOk laws_szCapture := by
  intro x left hb h0 h1
  unfold laws_szCapture
  obtain ⟨r0, e0, g0⟩ := laws_szResource_is _ left hb.2.2 h0 h1
  rw [e0, bind_some']
  rcases g0 with g0 | ⟨k0, l0, m0⟩
  · exact ⟨-1, by (try simp only [lt_d, cond_dec]); rw [if_pos g0], .inl (by omega)⟩
  (try simp only [lt_d, cond_dec]); rw [if_neg (by omega)]
  exact ⟨_, rfl, .inr ⟨⟨Flat.fl _ hb.1, Flat.fl _ hb.2.1, k0⟩, by omega, by omega⟩⟩

theorem laws_szCaptureS_is : SzOk laws_szCaptureS := szNest_is (d := ((0, 0, 0), 0, (0, [], (0, 0, 0)))) laws_szCapture_is

theorem laws_toResource_is (x : Resource) (h : ok x) : laws_toResource x = some (x.1, x.2.1, x.2.2.1, x.2.2.2.1, x.2.2.2.2) := by
  unfold laws_toResource
  rw [laws_toIntS_is _ h.2.1, bind_some', laws_toAddress_is _ h.2.2, bind_some']

theorem laws_toCapture_is (x : Capture) (h : ok x) : laws_toCapture x = some (x.1.1, x.1.2.1, x.1.2.2, x.2.1, x.2.2.1, x.2.2.2.1, x.2.2.2.2.1, x.2.2.2.2.2.1, x.2.2.2.2.2.2) := by
  unfold laws_toCapture
  rw [laws_toAddress_is _ h.1, bind_some', laws_toResource_is _ h.2.2, bind_some']

theorem laws_toCaptureS_is (x : List Capture) (h : ok x) : laws_toCaptureS x = some x := by
  unfold laws_toCaptureS
  exact toS2_is (d := ((0, 0, 0), 0, (0, [], (0, 0, 0)))) (f := laws_toCapture) (g := fun r => ((r.1, r.2.1, r.2.2.1), r.2.2.2.1, (r.2.2.2.2.1, r.2.2.2.2.2.1, (r.2.2.2.2.2.2.1, r.2.2.2.2.2.2.2.1, r.2.2.2.2.2.2.2.2)))) (by decide) (fun y hy => ⟨_, laws_toCapture_is y (h.2 y hy), rfl⟩) h.1

theorem laws_eqResource_is (x y : Resource) (h : ok x) : laws_eqResource x y = some (decide (x = y)) := by
  obtain ⟨a0, a1, a2⟩ := x; obtain ⟨b0, b1, b2⟩ := y
  unfold laws_eqResource
  simp only [laws_eqIntS_is _ _ h.2.1, laws_eqAddress_is _ _ h.2.2, bind_some']
  simp only [ne_d, neB_d, not_d, cond_dec, Prod.mk.injEq]
  by_cases e0 : a0 = b0 <;> by_cases e1 : a1 = b1 <;> by_cases e2 : a2 = b2 <;> simp [e0, e1, e2]

theorem laws_eqCapture_is (x y : Capture) (h : ok x) : laws_eqCapture x y = some (decide (x = y)) := by
  obtain ⟨a0, a1, a2⟩ := x; obtain ⟨b0, b1, b2⟩ := y
  unfold laws_eqCapture
  simp only [laws_eqAddress_is _ _ h.1, laws_eqResource_is _ _ h.2.2, bind_some']
  simp only [ne_d, neB_d, not_d, cond_dec, Prod.mk.injEq]
  by_cases e0 : a0 = b0 <;> by_cases e1 : a1 = b1 <;> by_cases e2 : a2 = b2 <;> simp [e0, e1, e2]

theorem laws_eqCaptureS_is (x y : List Capture) (h : ok x) : laws_eqCaptureS x y = some (decide (x = y)) := by
  unfold laws_eqCaptureS
  exact eqS_is (d := ((0, 0, 0), 0, (0, [], (0, 0, 0)))) (f := laws_eqCapture) (fun a ha b => laws_eqCapture_is a b (h.2 a ha)) (by have := h.1; omega)

theorem laws_szAddressS_is : SzOk laws_szAddressS := szFlat_is

theorem laws_toAddressS_is (x : List Address) (h : ok x) : laws_toAddressS x = some x := by
  unfold laws_toAddressS
  exact toS_is (d := (0, 0, 0)) (f := laws_toAddress) (by decide) (fun y hy => laws_toAddress_is y (h.2 y hy)) h.1

theorem laws_eqAddressS_is (x y : List Address) (h : ok x) : laws_eqAddressS x y = some (decide (x = y)) := by
  unfold laws_eqAddressS
  exact eqS_is (d := (0, 0, 0)) (f := laws_eqAddress) (fun a ha b => laws_eqAddress_is a b (h.2 a ha)) (by have := h.1; omega)

theorem laws_eqEdition_is (x y : Edition) (h : ok x) : laws_eqEdition x y = some (decide (x = y)) := by
  obtain ⟨a0, a1, a2, a3⟩ := x; obtain ⟨b0, b1, b2, b3⟩ := y
  unfold laws_eqEdition
  simp only [laws_eqCaptureS_is _ _ h.1, laws_eqAddressS_is _ _ h.2.2.2, bind_some']
  simp only [ne_d, neB_d, not_d, cond_dec, Prod.mk.injEq]
  by_cases e0 : a0 = b0 <;> by_cases e1 : a1 = b1 <;> by_cases e2 : a2 = b2 <;> by_cases e3 : a3 = b3 <;> simp [e0, e1, e2, e3]

theorem laws_szCaptureSS_is : SzOk laws_szCaptureSS := szNest_is (d := []) laws_szCaptureS_is

theorem laws_toCaptureSS_is (x : List (List Capture)) (h : ok x) : laws_toCaptureSS x = some x := by
  unfold laws_toCaptureSS
  exact toS_is (d := []) (f := laws_toCaptureS) (by decide) (fun y hy => laws_toCaptureS_is y (h.2 y hy)) h.1

theorem laws_eqCaptureSS_is (x y : List (List Capture)) (h : ok x) : laws_eqCaptureSS x y = some (decide (x = y)) := by
  unfold laws_eqCaptureSS
  exact eqS_is (d := []) (f := laws_eqCaptureS) (fun a ha b => laws_eqCaptureS_is a b (h.2 a ha)) (by have := h.1; omega)

end D
end Go.Sh
set_option linter.unusedVariables false
set_option linter.unusedSimpArgs false
set_option synthInstance.maxSize 100000
set_option maxHeartbeats 1000000
namespace Go.Sh
open Go Data
namespace D
theorem spec_l1In_is (a b c : Int) : spec_l1In a b c = some (decide (b ≤ a ∧ a ≤ c)) := by
  unfold spec_l1In
  simp only [ge_d, le_d, cond_dec]
  by_cases h1 : b ≤ a <;> by_cases h2 : a ≤ c <;> simp [h1, h2]

theorem impl_InRange_is (a b c : Int) : impl_InRange a b c = some (decide (b ≤ a ∧ a ≤ c)) := by
  unfold impl_InRange
  simp only [ge_d, le_d, cond_dec]
  by_cases h1 : b ≤ a <;> by_cases h2 : a ≤ c <;> simp [h1, h2]

end D
end Go.Sh
set_option linter.unusedVariables false
set_option linter.unusedSimpArgs false
set_option synthInstance.maxSize 100000
set_option maxHeartbeats 1000000
namespace Go.Sh
open Go Data
/-! ## Loops that look for something -/
theorem loop_find {α S R : Type} {step : S → Option (S ⊕ R)} (xs : List α) (emb : Nat → S) (p : α → Option R) (r0 : R)
    (hstep : ∀ (k : Nat) (hk : k < xs.length), step (emb k) = some (match p xs[k] with | some r => .inr r | none => .inl (emb (k + 1))))
    (hend : step (emb xs.length) = some (.inr r0)) : loopF step (emb 0) = some ((xs.findSome? p).getD r0) := by
  have key : ∀ (m k : Nat), k + m = xs.length → loopF step (emb k) = some (((xs.drop k).findSome? p).getD r0) := by
    intro m
    induction m with
    | zero =>
      intro k hk
      have hk' : k = xs.length := by omega
      subst hk'
      rw [loopF_inr hend, List.drop_length]; rfl
    | succ m ih =>
      intro k hk
      have hlt : k < xs.length := by omega
      rw [List.drop_eq_getElem_cons hlt, List.findSome?_cons]
      cases hp : p xs[k] with
      | none => rw [loopF_inl (s' := emb (k + 1)) (by rw [hstep k hlt, hp]), ih (k + 1) (by omega)]
      | some r => rw [loopF_inr (r := r) (by rw [hstep k hlt, hp])]; rfl
  simpa using key xs.length 0 (by omega)

theorem loop_any {α S : Type} {step : S → Option (S ⊕ Bool)} (xs : List α) (emb : Nat → S) (p : α → Bool)
    (hstep : ∀ (k : Nat) (hk : k < xs.length), step (emb k) = some (if p xs[k] = true then .inr true else .inl (emb (k + 1))))
    (hend : step (emb xs.length) = some (.inr false)) : loopF step (emb 0) = some (xs.any p) := by
  rw [loop_find xs emb (fun x => if p x = true then some true else none) false (fun k hk => by rw [hstep k hk]; split <;> rfl) hend]
  congr 1
  induction xs with
  | nil => rfl
  | cons x xs ih =>
    clear hstep hend
    induction (x :: xs) with
    | nil => rfl
    | cons y ys ih2 => rw [List.findSome?_cons, List.any_cons]; cases hp : p y <;> simp [ih2]

theorem loop_all {α S : Type} {step : S → Option (S ⊕ Bool)} (xs : List α) (emb : Nat → S) (p : α → Bool)
    (hstep : ∀ (k : Nat) (hk : k < xs.length), step (emb k) = some (if p xs[k] = true then .inl (emb (k + 1)) else .inr false))
    (hend : step (emb xs.length) = some (.inr true)) : loopF step (emb 0) = some (xs.all p) := by
  rw [loop_find xs emb (fun x => if p x = true then none else some false) true (fun k hk => by rw [hstep k hk]; split <;> rfl) hend]
  congr 1
  clear hstep hend
  induction xs with
  | nil => rfl
  | cons y ys ih2 => rw [List.findSome?_cons, List.all_cons]; cases hp : p y <;> simp [ih2]

/-- looking for a place -/
theorem loop_index {α S : Type} {step : S → Option (S ⊕ Int)} (xs : List α) (emb : Nat → S) (p : α → Bool)
    (hstep : ∀ (k : Nat) (hk : k < xs.length), step (emb k) = some (if p xs[k] = true then .inr (k : Int) else .inl (emb (k + 1))))
    (hend : step (emb xs.length) = some (.inr (-1))) : loopF step (emb 0) = some (if xs.any p = true then (xs.findIdx p : Int) else -1) := by
  have key : ∀ (m k : Nat), k + m = xs.length → loopF step (emb k) = some (if (xs.drop k).any p = true then ((k + (xs.drop k).findIdx p : Nat) : Int) else -1) := by
    intro m
    induction m with
    | zero =>
      intro k hk
      have hk' : k = xs.length := by omega
      subst hk'
      rw [loopF_inr hend, List.drop_length]; rfl
    | succ m ih =>
      intro k hk
      have hlt : k < xs.length := by omega
      rw [List.drop_eq_getElem_cons hlt, List.any_cons, List.findIdx_cons]
      cases hp : p xs[k] with
      | false =>
        rw [loopF_inl (s' := emb (k + 1)) (by rw [hstep k hlt, hp]; rfl), ih (k + 1) (by omega)]
        simp only [Bool.false_or, _root_.cond_false]
        split
        · congr 2; omega
        · rfl
      | true => rw [loopF_inr (r := (k : Int)) (by rw [hstep k hlt, hp]; rfl)]; simp
  simpa using key xs.length 0 (by omega)

namespace D
/-! ## Counts -/

end D
end Go.Sh
set_option linter.unusedVariables false
set_option linter.unusedSimpArgs false
set_option synthInstance.maxSize 100000
set_option maxHeartbeats 1000000
namespace Go.Sh
open Go Data
theorem loop_eq2 {α S : Type} [DecidableEq α] {step : S → Option (S ⊕ Bool)} (xs ys : List α) (emb : Nat → S) (hl : xs.length = ys.length)
    (hstep : ∀ (k : Nat) (hk : k < xs.length) (hk' : k < ys.length), step (emb k) = some (if xs[k] = ys[k] then .inl (emb (k + 1)) else .inr false))
    (hend : step (emb xs.length) = some (.inr true)) : loopF step (emb 0) = some (decide (xs = ys)) := by
  rw [← zip_all_eq hl]
  refine loop_all (xs.zip ys) emb (fun p => decide (p.1 = p.2)) (fun k hk => ?_) ?_
  · have h1 : k < xs.length := by simp at hk; omega
    rw [hstep k h1 (by omega)]
    simp only [List.getElem_zip, decide_eq_true_eq]
  · rw [List.length_zip, ← hl, Nat.min_self]; exact hend

/-- collecting -/
theorem loop_flat {α β : Type} {step : List β × Int → Option ((List β × Int) ⊕ List β)} (xs : List α) (f : α → List β)
    (hstep : ∀ (k : Nat) (hk : k < xs.length), step ((xs.take k).flatMap f, (k : Int)) = some (.inl ((xs.take k).flatMap f ++ f xs[k], ((k + 1 : Nat) : Int))))
    (hend : step (xs.flatMap f, (xs.length : Int)) = some (.inr (xs.flatMap f))) : loopF step ([], 0) = some (xs.flatMap f) := by
  refine loop_upto (r := xs.flatMap f) xs.length (fun k (a : List β) => (a, (k : Int))) (fun k => (xs.take k).flatMap f) (fun k hk => ?_) ?_
  · rw [hstep k hk, List.take_succ_eq_append_getElem hk, List.flatMap_append]; simp
  · rw [List.take_length]; exact hend

theorem flat_len {α β : Type} {f : α → List β} {m : Nat} : ∀ (xs : List α), (∀ x ∈ xs, (f x).length ≤ m) → (xs.flatMap f).length ≤ xs.length * m
  | [], _ => by simp
  | x :: xs, h => by
    have h1 := flat_len xs fun y hy => h y (by simp [hy])
    have h2 := h x (by simp)
    simp only [List.flatMap_cons, List.length_append, List.length_cons, Nat.add_mul]; omega

theorem take_flat_len {α β : Type} {f : α → List β} {m k : Nat} {xs : List α} (h : ∀ x ∈ xs, (f x).length ≤ m) (hk : k ≤ xs.length) : ((xs.take k).flatMap f).length ≤ k * m := by
  have := flat_len (xs.take k) fun y hy => h y (List.mem_of_mem_take hy)
  simpa [Nat.min_eq_left hk] using this

theorem fitsN {α : Type} {xs ys : List α} {b : Nat} (h : xs.length + ys.length ≤ 100000000) (hb : b ≤ 1000000) : N.fits xs ys b := by
  unfold N.fits
  exact Nat.le_trans (Nat.mul_le_mul h hb) (by decide)

namespace D
theorem addr_eq (x y : Address) : N.both (N.eq x.1 y.1) (N.both (N.eq x.2.1 y.2.1) (N.eq x.2.2 y.2.2)) = decide (x = y) := by
  obtain ⟨a, b, c⟩ := x; obtain ⟨d, e, f⟩ := y
  simp only [eq_d, both_d, Prod.mk.injEq]

theorem eq_len {α : Type} [DecidableEq α] {x y : List α} {K : Option Bool} (h : x.length = y.length → K = some (decide (x = y))) : N.cond (N.ne (N.len x) (N.len y)) (some false) K = some (decide (x = y)) := by
  simp only [ne_d, len_d, cond_dec]
  split
  · rename_i h1
    have : ¬ x = y := fun e => h1 (by rw [e])
    simp [this]
  · exact h (by omega)

theorem slices_Equal_int_is {x y : List Int} (h : x.length ≤ 4611686018427387904) : slices_Equal_int x y = some (decide (x = y)) := by
  refine eq_len fun hl => loop_eq2 x y (fun k => (k : Int)) hl (fun k hk hk' => ?_) ?_
  · have h0 : (0 : Int) ≤ (k : Int) := by omega
    have h1 : (k : Int) < (x.length : Int) := by omega
    have h2 : (k : Int) < (y.length : Int) := by omega
    simp only [ite_if]; simp only [lt_d, len_d, cond_dec, h0, h1, h2, if_true, rd_at x k hk, rd_at y k hk', ne_d, next_id hk (by omega)]
    by_cases e : x[k] = y[k] <;> simp [e]
  · simp only [lt_d, len_d, cond_dec]; rw [if_neg (by omega)]

/-! ### Captures, editions -/
theorem impl_EqualResources_is {x y : Resource} (h : ok x) : impl_EqualResources x y = some (decide (x = y)) := by
  unfold impl_EqualResources
  rw [slices_Equal_int_is (by have := h.2.1.1; omega), bind_some', addr_eq]
  obtain ⟨a, b, c⟩ := x; obtain ⟨a', b', c'⟩ := y
  simp only [eq_d, cond_dec, Prod.mk.injEq]
  by_cases e0 : a = a' <;> by_cases e1 : b = b' <;> by_cases e2 : c = c' <;> simp [e0, e1, e2]

theorem spec_EqualResources_is {x y : Resource} (h : ok x) : spec_EqualResources x y = some (decide (x = y)) := impl_EqualResources_is h

theorem impl_sameCapture_is {x y : Capture} (h : ok x) : impl_sameCapture x y = some (decide (x = y)) := by
  unfold impl_sameCapture
  rw [impl_EqualResources_is h.2.2, bind_some', addr_eq]
  obtain ⟨a, b, c⟩ := x; obtain ⟨a', b', c'⟩ := y
  simp only [eq_d, cond_dec, Prod.mk.injEq]
  by_cases e0 : a = a' <;> by_cases e1 : b = b' <;> by_cases e2 : c = c' <;> simp [e0, e1, e2]

theorem spec_l15Same_is {x y : Capture} (h : ok x) : spec_l15Same x y = some (decide (x = y)) := by
  unfold spec_l15Same
  rw [spec_EqualResources_is h.2.2, bind_some', addr_eq]
  obtain ⟨a, b, c⟩ := x; obtain ⟨a', b', c'⟩ := y
  simp only [eq_d, cond_dec, Prod.mk.injEq]
  by_cases e0 : a = a' <;> by_cases e1 : b = b' <;> by_cases e2 : c = c' <;> simp [e0, e1, e2]

end D
end Go.Sh
set_option linter.unusedVariables false
set_option linter.unusedSimpArgs false
set_option synthInstance.maxSize 100000
set_option maxHeartbeats 1000000
namespace Go.Sh
open Go Data
namespace D
end D
end Go.Sh
set_option linter.unusedVariables false
set_option linter.unusedSimpArgs false
set_option synthInstance.maxSize 100000
set_option maxHeartbeats 1000000
namespace Go.Sh
open Go Data
namespace D
/-! ### Captures outside -/
theorem slices_Contains_Address_is {l : List Address} (h : l.length ≤ 4611686018427387904) (x : Address) : slices_Contains_Address l x = some (decide (x ∈ l)) := by
  unfold slices_Contains_Address
  have e : slices_Index_Address l x = some (if l.any (fun y => decide (x = y)) = true then (l.findIdx (fun y => decide (x = y)) : Int) else -1) := by
    refine loop_index l (fun k => (k : Int)) (fun y => decide (x = y)) (fun k hk => ?_) ?_
    · have h0 : (0 : Int) ≤ (k : Int) := by omega
      have h1 : (k : Int) < (l.length : Int) := by omega
      simp only [ite_if]; simp only [lt_d, len_d, cond_dec, h0, h1, if_true, rd_at l k hk, addr_eq, next_id hk (by omega), decide_eq_true_eq]
      split <;> rfl
    · simp only [lt_d, len_d, cond_dec]; rw [if_neg (by omega)]
  rw [e, bind_some', ge_d]
  congr 1
  by_cases hx : x ∈ l
  · have : l.any (fun y => decide (x = y)) = true := List.any_eq_true.2 ⟨x, hx, by simp⟩
    rw [if_pos this]; simp [hx]
  · have : ¬ l.any (fun y => decide (x = y)) = true := fun h => by
      obtain ⟨y, hy, e⟩ := List.any_eq_true.1 h
      simp only [decide_eq_true_eq] at e; subst e; exact hx hy
    rw [if_neg this]; simp [hx]

theorem spec_l9Has_is {l : List Address} (h : l.length ≤ 4611686018427387904) (x : Address) : spec_l9Has l x = some (decide (x ∈ l)) := by
  have e : l.any (fun y => decide (y = x)) = decide (x ∈ l) := by
    by_cases hx : x ∈ l
    · have : l.any (fun y => decide (y = x)) = true := List.any_eq_true.2 ⟨x, hx, by simp⟩
      simp [this, hx]
    · have : ¬ l.any (fun y => decide (y = x)) = true := fun h => by
        obtain ⟨y, hy, e⟩ := List.any_eq_true.1 h
        simp only [decide_eq_true_eq] at e; subst e; exact hx hy
      simp only [Bool.not_eq_true] at this
      simp [hx, this]
  rw [← e]
  refine loop_any l (fun k => (k : Int)) (fun y => decide (y = x)) (fun k hk => ?_) ?_
  · have h0 : (0 : Int) ≤ (k : Int) := by omega
    have h1 : (k : Int) < (l.length : Int) := by omega
    simp only [ite_if]; simp only [lt_d, len_d, cond_dec, h0, h1, if_true, rd_at l k hk, addr_eq, next_id hk (by omega), decide_eq_true_eq]
    split <;> rfl
  · simp only [lt_d, len_d, cond_dec]; rw [if_neg (by omega)]

theorem spec_l5Copy_is {r : Resource} (h : ok r) : spec_l5Copy r = some r := by
  unfold spec_l5Copy
  rw [nite_pos (fitsN (by have := h.2.1.1; simp; omega) (by omega))]; rfl

theorem spec_l15Copy_is {l : List Capture} (h : ok l) : spec_l15Copy l = some l := by
  have hl := h.1
  refine (loop_flat l (fun x => [x]) (fun k hk => ?_) ?_).trans (by simp)
  · have h0 : (0 : Int) ≤ (k : Int) := by omega
    have h1 : (k : Int) < (l.length : Int) := by omega
    have h2 := take_flat_len (f := fun x : Capture => [x]) (m := 1) (xs := l) (fun _ _ => by simp) (Nat.le_of_lt hk)
    simp only [ite_if]; simp only [lt_d, len_d, cond_dec, h0, h1, if_true, rd_at l k hk, next_id hk (by omega), spec_l5Copy_is (h.at hk).2.2, bind_some']
    rw [if_pos (fitsN (by show (List.flatMap (fun x : Capture => [x]) (l.take k)).length + 1 ≤ 100000000; omega) (by omega))]; rfl
  · simp only [lt_d, len_d, cond_dec]; rw [if_neg (by omega)]

def outsideP (l : List Capture) (hidden : List Address) : List Capture := l.flatMap fun c => if c.1 ∈ hidden then [] else [c]

theorem cut_one {α : Type} (l : List α) (k : Nat) (hk : k < l.length) : N.cut l (k : Int) ((k + 1 : Nat) : Int) = [l[k]] := by
  unfold N.cut
  simp only [Int.toNat_natCast]
  rw [List.take_succ_eq_append_getElem hk, List.drop_append_of_le_length (by simp; omega), List.drop_eq_nil_of_le (by simp; omega)]
  rfl

theorem spec_l23Without_is {l : List Capture} {hidden : List Address} (h : ok l) (hh : ok hidden) : spec_l23Without l hidden = some (outsideP l hidden) := by
  have hl := h.1; have hl2 := hh.1
  refine loop_flat l (fun c => if c.1 ∈ hidden then [] else [c]) (fun k hk => ?_) ?_
  · have h0 : (0 : Int) ≤ (k : Int) := by omega
    have h1 : (k : Int) < (l.length : Int) := by omega
    have h3 : (k : Int) ≤ ((k + 1 : Nat) : Int) := by omega
    have h4 : ((k + 1 : Nat) : Int) ≤ (l.length : Int) := by omega
    have h2 := take_flat_len (f := fun c : Capture => if c.1 ∈ hidden then [] else [c]) (m := 1) (xs := l) (fun x _ => by split <;> simp) (Nat.le_of_lt hk)
    have hc : ok [l[k]] := ⟨by simp, fun x hx => by simp only [List.mem_singleton] at hx; subst hx; exact h.at hk⟩
    simp only [ite_if]; simp only [lt_d, len_d, cond_dec, h0, h1, if_true, rd_at l k hk, next_id hk (by omega), h3, h4, cut_one l k hk, spec_l15Copy_is hc, spec_l9Has_is (l := hidden) (by omega), bind_some', not_d]
    by_cases c : (l[k]).1 ∈ hidden
    · simp [c]
    · rw [if_pos (by simpa using c), if_pos (fitsN (by show (List.flatMap _ (l.take k)).length + 1 ≤ 100000000; omega) (by omega)), if_neg c]; rfl
  · simp only [lt_d, len_d, cond_dec]; rw [if_neg (by omega)]

end D
end Go.Sh
set_option linter.unusedVariables false
set_option linter.unusedSimpArgs false
set_option synthInstance.maxSize 100000
set_option maxHeartbeats 1000000
namespace Go.Sh
open Go Data
theorem let_eq {α R : Type} (x : α) (f : α → Option R) : N.let_ x f = f x := rfl

theorem len_set {α : Type} (xs : List α) (i : Int) (v : α) : N.len (N.set xs i v) = N.len xs := by simp [N.len, N.set]

theorem rd_set {α : Type} {xs : List α} {i : Nat} (h : i < xs.length) (v d : α) : N.rd (N.set xs (i : Int) v) (i : Int) d = v := by simp [N.rd, N.set, List.getD, h]

theorem set_set {α : Type} (xs : List α) (i : Int) (v w : α) : N.set (N.set xs i v) i w = N.set xs i w := by simp [N.set]

theorem set_at {α : Type} (xs : List α) (i : Nat) (v : α) : N.set xs (i : Int) v = xs.set i v := by simp [N.set]

/-! ## Marks -/
def markL {α : Type} (mk : Int → α → α) (c : Int) : List α → Int → List α
  | [], _ => []
  | x :: xs, k => mk k x :: markL mk c xs (k + c)

theorem markL_len {α : Type} {mk : Int → α → α} {c : Int} : ∀ (xs : List α) (k : Int), (markL mk c xs k).length = xs.length
  | [], _ => rfl
  | x :: xs, k => by simp [markL, markL_len xs]

theorem markL_at {α : Type} {mk : Int → α → α} {c : Int} : ∀ (xs : List α) (k : Int) (i : Nat) (hi : i < xs.length) (hi' : i < (markL mk c xs k).length), (markL mk c xs k)[i] = mk (k + c * i) xs[i]
  | x :: xs, k, 0, _, _ => by simp [markL]
  | x :: xs, k, i + 1, hi, hi' => by
    simp only [markL, List.getElem_cons_succ]
    rw [markL_at xs (k + c) i (by simpa using hi)]
    congr 1
    rw [show ((i + 1 : Nat) : Int) = (i : Int) + 1 from by omega, Int.mul_add, Int.mul_one]; omega

theorem markL_app {α : Type} {mk : Int → α → α} {c : Int} : ∀ (xs ys : List α) (k : Int), markL mk c (xs ++ ys) k = markL mk c xs k ++ markL mk c ys (k + c * xs.length)
  | [], ys, k => by simp [markL]
  | x :: xs, ys, k => by
    simp only [List.cons_append, markL, markL_app xs ys, List.length_cons]
    rw [show ((xs.length + 1 : Nat) : Int) = (xs.length : Int) + 1 from by omega, Int.mul_add, Int.mul_one, show k + c + c * (xs.length : Int) = k + (c * (xs.length : Int) + c) from by omega]

theorem mark_loop {α : Type} {step : Int × Int × List α → Option ((Int × Int × List α) ⊕ (Int × List α))} {c B : Int} {mk : Int → α → α} (hc : 0 ≤ c)
    (hstep : ∀ (k : Int) (i : Nat) (ys : List α) (hi : i < ys.length), 0 ≤ k → k ≤ B → ys.length ≤ 1048576 → step (k, (i : Int), ys) = some (.inl (k + c, ((i + 1 : Nat) : Int), ys.set i (mk k ys[i]))))
    (hend : ∀ (k : Int) (ys : List α), step (k, (ys.length : Int), ys) = some (.inr (k, ys))) {xs : List α} {k : Int} (h0 : 0 ≤ k) (hB : k + c * xs.length ≤ B) (hl : xs.length ≤ 1048576) :
    loopF step (k, 0, xs) = some (k + c * xs.length, markL mk c xs k) := by
  have key : ∀ (m i : Nat), i + m = xs.length → loopF step (k + c * i, (i : Int), markL mk c (xs.take i) k ++ xs.drop i) = some (k + c * xs.length, markL mk c xs k) := by
    intro m
    induction m with
    | zero =>
      intro i hi
      have hi' : i = xs.length := by omega
      subst hi'
      rw [List.take_length, List.drop_length, List.append_nil]
      have := hend (k + c * xs.length) (markL mk c xs k)
      rw [markL_len] at this
      exact loopF_inr this
    | succ m ih =>
      intro i hi
      have hlt : i < xs.length := by omega
      have hle : c * (i : Int) ≤ c * (xs.length : Int) := Int.mul_le_mul_of_nonneg_left (by omega) hc
      have hge : 0 ≤ c * (i : Int) := Int.mul_nonneg hc (by omega)
      have hlen : (markL mk c (xs.take i) k).length = i := by rw [markL_len, List.length_take]; omega
      have hs := hstep (k + c * i) i (markL mk c (xs.take i) k ++ xs.drop i) (by rw [List.length_append, hlen, List.length_drop]; omega) (by omega) (by omega) (by rw [List.length_append, hlen, List.length_drop]; omega)
      rw [loopF_inl hs]
      have e1 : (markL mk c (xs.take i) k ++ xs.drop i)[i]'(by rw [List.length_append, hlen, List.length_drop]; omega) = xs[i] := by
        rw [List.getElem_append_right (by omega)]
        simp only [hlen, Nat.sub_self, List.getElem_drop, Nat.add_zero]
      have e2 : (markL mk c (xs.take i) k ++ xs.drop i).set i (mk (k + c * i) xs[i]) = markL mk c (xs.take (i + 1)) k ++ xs.drop (i + 1) := by
        rw [List.take_succ_eq_append_getElem hlt, markL_app, List.length_take, Nat.min_eq_left (by omega), List.set_append_right _ _ (by omega), hlen, Nat.sub_self, List.drop_eq_getElem_cons hlt, List.set_cons_zero, List.append_assoc]; rfl
      rw [e1, e2, show k + c * (i : Int) + c = k + c * ((i + 1 : Nat) : Int) from by rw [show ((i + 1 : Nat) : Int) = (i : Int) + 1 from by omega, Int.mul_add, Int.mul_one]; omega]
      exact ih (i + 1) (by omega)
  have := key xs.length 0 (by omega)
  simpa [markL] using this

theorem held_loop {α : Type} {step : Int × Int → Option ((Int × Int) ⊕ Int)} {c B : Int} {mk : Int → α → α} {xs : List α} {k : Int} (hc : 0 ≤ c)
    (hstep : ∀ (q : Int) (i : Nat) (hi : i < xs.length) (hi' : i < (markL mk c xs k).length), (markL mk c xs k)[i] = mk q xs[i] → 0 ≤ q → q ≤ B → step (q, (i : Int)) = some (.inl (q + c, ((i + 1 : Nat) : Int))))
    (hend : ∀ (q : Int), step (q, (xs.length : Int)) = some (.inr q)) (h0 : 0 ≤ k) (hB : k + c * xs.length ≤ B) : loopF step (k, 0) = some (k + c * xs.length) := by
  have := loop_upto (step := step) (r := k + c * xs.length) xs.length (fun i (q : Int) => (q, (i : Int))) (fun i => k + c * i) (fun i hi => ?_) ?_
  · simpa using this
  · have hle : c * (i : Int) ≤ c * (xs.length : Int) := Int.mul_le_mul_of_nonneg_left (by omega) hc
    have hge : 0 ≤ c * (i : Int) := Int.mul_nonneg hc (by omega)
    have hi' : i < (markL mk c xs k).length := by rw [markL_len]; exact hi
    rw [hstep (k + c * i) i hi hi' (markL_at xs k i hi hi') (by omega) (by omega)]
    rw [show k + c * (i : Int) + c = k + c * ((i + 1 : Nat) : Int) from by rw [show ((i + 1 : Nat) : Int) = (i : Int) + 1 from by omega, Int.mul_add, Int.mul_one]; omega]
  · rw [hend]

namespace D
def mkAddressS (k : Int) (_ : Address) : Address := (k, k + 1, k + 1 + 1)

theorem laws_markAddressS_is {x : List Address} {k : Int} (h0 : 0 ≤ k) (hk : k ≤ 8000000000000000000) (h : ok x) : laws_markAddressS x k = some (k + 3 * x.length, markL mkAddressS 3 x k) := by
  have hl := h.1
  refine mark_loop (B := 9000000000000000000) (c := 3) (mk := mkAddressS) (by omega) (fun k i ys hi h0 h1 hl => ?_) (fun k ys => ?_) h0 (by omega) hl
  · have i0 : (0 : Int) ≤ (i : Int) := by omega
    have i1 : (i : Int) < (ys.length : Int) := by omega
    have a0 : N.add .i64 (k) 1 = k + 1 := add_id (by omega) (by omega)
    have a1 : N.add .i64 (k + 1) 1 = k + 1 + 1 := add_id (by omega) (by omega)
    have a2 : N.add .i64 (k + 1 + 1) 1 = k + 1 + 1 + 1 := add_id (by omega) (by omega)
    have e : k + 1 + 1 + 1 = k + 3 := by omega
    simp only [ite_if]; (try simp only [let_eq, len_set]); simp only [set_set, rd_set hi, lt_d, len_d, cond_dec, i0, i1, if_true, a0, a1, a2, eq_d, next_id hi (by omega), e]
    rw [set_at]; rfl
  · simp only [lt_d, len_d, cond_dec]; rw [if_neg (by omega)]

theorem laws_heldAddressS_is {x : List Address} {k : Int} (h0 : 0 ≤ k) (hk : k ≤ 8000000000000000000) (h : ok x) : laws_heldAddressS (markL mkAddressS 3 x k) k = some (k + 3 * x.length) := by
  have hl := h.1
  refine held_loop (B := 9000000000000000000) (c := 3) (mk := mkAddressS) (xs := x) (by omega) (fun k i hi hi' hm h0 h1 => ?_) (fun q => ?_) h0 (by omega)
  · have i0 : (0 : Int) ≤ (i : Int) := by omega
    have i1 : (i : Int) < (x.length : Int) := by omega
    have a0 : N.add .i64 (k) 1 = k + 1 := add_id (by omega) (by omega)
    have a1 : N.add .i64 (k + 1) 1 = k + 1 + 1 := add_id (by omega) (by omega)
    have a2 : N.add .i64 (k + 1 + 1) 1 = k + 1 + 1 + 1 := add_id (by omega) (by omega)
    have e : k + 1 + 1 + 1 = k + 3 := by omega
    simp only [ite_if]; simp only [lt_d, len_d, markL_len, cond_dec, i0, i1, if_true, rd_at _ i hi', hm, mkAddressS, a0, a1, a2, eq_d, ne_d, neB_d, next_id hi (by omega), e]
    simp
  · simp only [lt_d, len_d, markL_len, cond_dec]; rw [if_neg (by omega)]

def mkIntS (k : Int) (_ : Int) : Int := k

theorem laws_heldIntS_is {x : List Int} {k : Int} (h0 : 0 ≤ k) (hk : k ≤ 8000000000000000000) (h : ok x) : laws_heldIntS (markL mkIntS 1 x k) k = some (k + 1 * x.length) := by
  have hl := h.1
  refine held_loop (B := 9000000000000000000) (c := 1) (mk := mkIntS) (xs := x) (by omega) (fun k i hi hi' hm h0 h1 => ?_) (fun q => ?_) h0 (by omega)
  · have i0 : (0 : Int) ≤ (i : Int) := by omega
    have i1 : (i : Int) < (x.length : Int) := by omega
    have a0 : N.add .i64 (k) 1 = k + 1 := add_id (by omega) (by omega)
    have e : k + 1 = k + 1 := by omega
    simp only [ite_if]; simp only [lt_d, len_d, markL_len, cond_dec, i0, i1, if_true, rd_at _ i hi', hm, mkIntS, a0, eq_d, ne_d, neB_d, next_id hi (by omega), e]
    simp
  · simp only [lt_d, len_d, markL_len, cond_dec]; rw [if_neg (by omega)]

end D
end Go.Sh
set_option linter.unusedVariables false
set_option linter.unusedSimpArgs false
set_option synthInstance.maxSize 100000
set_option maxHeartbeats 1000000
namespace Go.Sh
open Go Data
namespace D
end D
end Go.Sh
set_option linter.unusedVariables false
set_option linter.unusedSimpArgs false
set_option synthInstance.maxSize 100000
set_option maxHeartbeats 1000000
namespace Go.Sh
open Go Data
namespace D
/-! ### Ranges of lists -/
theorem impl_allIn_is {l : List Int} (h : l.length ≤ 4611686018427387904) (a b : Int) : impl_allIn l a b = some (l.all fun x => decide (a ≤ x ∧ x ≤ b)) := by
  refine loop_all l (fun k => ((k : Nat) : Int)) (fun x => decide (a ≤ x ∧ x ≤ b)) (fun k hk => ?_) ?_
  · have h0 : (0 : Int) ≤ (k : Int) := by omega
    have h1 : (k : Int) < (l.length : Int) := by omega
    simp only [ite_if]; simp only [lt_d, len_d, cond_dec, h0, h1, if_true, rd_at l k hk, impl_InRange_is, bind_some', not_d, next_id hk (by omega), decide_eq_true_eq]
    by_cases c : a ≤ l[k] ∧ l[k] ≤ b
    · rw [if_neg (by simpa using c), if_pos c]
    · rw [if_pos c, if_neg c]
  · simp only [lt_d, len_d, cond_dec]; rw [if_neg (by omega)]

theorem spec_l5Bytes_is {l : List Int} (h : l.length ≤ 4611686018427387904) : spec_l5Bytes l = some (l.all fun x => decide (0 ≤ x ∧ x ≤ 255)) := by
  refine loop_all l (fun k => ((k : Nat) : Int)) (fun x => decide (0 ≤ x ∧ x ≤ 255)) (fun k hk => ?_) ?_
  · have h0 : (0 : Int) ≤ (k : Int) := by omega
    have h1 : (k : Int) < (l.length : Int) := by omega
    simp only [ite_if]; simp only [lt_d, len_d, cond_dec, h0, h1, if_true, rd_at l k hk, spec_l1In_is, bind_some', not_d, next_id hk (by omega), decide_eq_true_eq]
    by_cases c : 0 ≤ l[k] ∧ l[k] ≤ 255
    · rw [if_neg (by simpa using c), if_pos c]
    · rw [if_pos c, if_neg c]
  · simp only [lt_d, len_d, cond_dec]; rw [if_neg (by omega)]

/-! ### Addresses, resources, captures -/
def addrP (a : Address) : Bool := decide (1 ≤ a.1 ∧ a.1 ≤ 9) && decide (0 ≤ a.2.1 ∧ a.2.1 ≤ 99) && decide (0 ≤ a.2.2 ∧ a.2.2 ≤ 99)

theorem spec_IsAddress_is (a : Address) : spec_IsAddress a = some (addrP a) := by
  unfold spec_IsAddress addrP
  simp only [spec_l1In_is, bind_some']
  cases decide (1 ≤ a.1 ∧ a.1 ≤ 9) <;> cases decide (0 ≤ a.2.1 ∧ a.2.1 ≤ 99) <;> simp

theorem impl_IsAddress_is (a : Address) : impl_IsAddress a = some (addrP a) := by
  unfold impl_IsAddress addrP
  simp only [impl_InRange_is, bind_some']
  cases decide (1 ≤ a.1 ∧ a.1 ≤ 9) <;> cases decide (0 ≤ a.2.1 ∧ a.2.1 ≤ 99) <;> simp

def bytesP (l : List Int) : Bool := l.all fun x => decide (0 ≤ x ∧ x ≤ 255)

def resP (r : Resource) : Bool :=
  if r.1 = 1 ∨ r.1 = 2 then decide (r.2.1.length ≤ 6) && bytesP r.2.1 && decide (r.2.2 = (0, 0, 0))
  else if r.1 = 3 then decide (r.2.1 = []) && addrP r.2.2
  else if r.1 = 4 then decide (r.2.1 = []) && decide (r.2.2 = (0, 0, 0)) else false

theorem zero_addr (a : Address) : N.both (N.eq a.1 0) (N.both (N.eq a.2.1 0) (N.eq a.2.2 0)) = decide (a = (0, 0, 0)) := addr_eq a (0, 0, 0)

theorem len_zero (l : List Int) : N.eq (N.len l) 0 = decide (l = []) := by
  rw [eq_d, len_d]; cases l <;> simp; omega

theorem impl_IsResource_is {r : Resource} (h : r.2.1.length ≤ 4611686018427387904) : impl_IsResource r = some (resP r) := by
  unfold impl_IsResource resP bytesP
  simp only [impl_allIn_is h, impl_IsAddress_is, bind_some', zero_addr, len_zero]
  simp only [eq_d, le_d, len_d, cond_dec]
  by_cases c1 : r.1 = 1
  · simp only [c1, if_true, true_or]
    by_cases c5 : r.2.1.length ≤ 6
    · rw [if_pos (by omega)]
      cases r.2.1.all fun x => decide (0 ≤ x ∧ x ≤ 255) <;> simp [c5]
    · rw [if_neg (by omega)]; simp [c5]
  · rw [if_neg c1]
    by_cases c2 : r.1 = 2
    · simp only [c2, if_true, or_true]
      by_cases c5 : r.2.1.length ≤ 6
      · rw [if_pos (by omega)]
        cases r.2.1.all fun x => decide (0 ≤ x ∧ x ≤ 255) <;> simp [c5]
      · rw [if_neg (by omega)]; simp [c5]
    · simp only [c1, c2, if_false, or_self]
      by_cases c3 : r.1 = 3
      · simp only [c3, if_true]
        by_cases c6 : r.2.1 = [] <;> simp [c6]
      · simp only [c3, if_false]
        by_cases c4 : r.1 = 4
        · simp only [c4, if_true]
          by_cases c6 : r.2.1 = [] <;> simp [c6]
        · simp only [c4, if_false]

theorem spec_IsResource_is {r : Resource} (h : r.2.1.length ≤ 4611686018427387904) : spec_IsResource r = some (resP r) := by
  unfold spec_IsResource resP bytesP
  simp only [spec_l5Bytes_is h, spec_IsAddress_is, spec_l1In_is, bind_some', zero_addr, len_zero]
  simp only [eq_d, ne_d, gt_d, len_d, cond_not, cond_dec]
  have e6 : r.2.1 = [] → (r.2.1.all fun x => decide (0 ≤ x ∧ x ≤ 255)) = true := fun e => by rw [e]; rfl
  have e7 : r.2.1 = [] → r.2.1.length = 0 := fun e => by rw [e]; rfl
  have e8 : r.2.1.length > 6 → ¬ r.2.1 = [] := fun e h => by rw [h] at e; simp at e
  by_cases c0 : 1 ≤ r.1 ∧ r.1 ≤ 4
  · rw [if_pos c0]
    rcases (show r.1 = 1 ∨ r.1 = 2 ∨ r.1 = 3 ∨ r.1 = 4 by omega) with c | c | c | c
    · cases hc : r.2.1.all fun x => decide (0 ≤ x ∧ x ≤ 255)
      · simp [c]
      · by_cases c5 : r.2.1.length ≤ 6
        · rw [cond_true, if_neg (by omega)]; by_cases hz : r.2.2 = (0, 0, 0) <;> simp [c, c5, hz]
        · rw [cond_true, if_pos (by omega)]; simp [c, c5]
    · cases hc : r.2.1.all fun x => decide (0 ≤ x ∧ x ≤ 255)
      · simp [c]
      · by_cases c5 : r.2.1.length ≤ 6
        · rw [cond_true, if_neg (by omega)]; by_cases hz : r.2.2 = (0, 0, 0) <;> simp [c, c5, hz]
        · rw [cond_true, if_pos (by omega)]; simp [c, c5]
    · by_cases c6 : r.2.1 = []
      · rw [e6 c6, cond_true, if_neg (by rw [e7 c6]; omega)]; simp [c, c6]
        cases addrP r.2.2 <;> simp
      · cases hc : r.2.1.all fun x => decide (0 ≤ x ∧ x ≤ 255)
        · simp [c, c6]
        · by_cases c5 : r.2.1.length ≤ 6
          · rw [cond_true, if_neg (by omega)]; simp [c, c6]
            cases addrP r.2.2 <;> simp
          · rw [cond_true, if_pos (by omega)]; simp [c, c6]
    · by_cases c6 : r.2.1 = []
      · rw [e6 c6, cond_true, if_neg (by rw [e7 c6]; omega)]; by_cases hz : r.2.2 = (0, 0, 0) <;> simp [c, c6, hz]
      · cases hc : r.2.1.all fun x => decide (0 ≤ x ∧ x ≤ 255)
        · simp [c, c6]
        · by_cases c5 : r.2.1.length ≤ 6
          · rw [cond_true, if_neg (by omega)]; simp [c, c6]
          · rw [cond_true, if_pos (by omega)]; simp [c, c6]
  · rw [if_neg c0]
    rw [if_neg (by omega), if_neg (by omega), if_neg (by omega)]

def capP (c : Capture) : Bool := addrP c.1 && decide (0 ≤ c.2.1 ∧ c.2.1 ≤ 2000) && resP c.2.2

def areCapturesP (l : List Capture) : Bool := decide (l.length ≤ 20) && l.all capP

theorem impl_AreCaptures_is {l : List Capture} (h : ok l) : impl_AreCaptures l = some (areCapturesP l) := by
  have hl := h.1
  unfold impl_AreCaptures slices_ContainsFunc_Capture_impl_AreCaptures_1 areCapturesP
  have e1 : ∀ c : Capture, ok c → impl_AreCaptures_1 c = some (!capP c) := fun c hc => by
    unfold impl_AreCaptures_1 capP
    simp only [impl_IsAddress_is, impl_InRange_is, impl_IsResource_is (r := c.2.2) (by have := hc.2.2.2.1.1; omega), bind_some', cond_not, not_b]
    cases addrP c.1 <;> cases decide (0 ≤ c.2.1 ∧ c.2.1 ≤ 2000) <;> simp
  have e : slices_IndexFunc_Capture_impl_AreCaptures_1 l = some (if l.any (fun c => !capP c) = true then (l.findIdx (fun c => !capP c) : Int) else -1) := by
    refine loop_index l (fun k => (k : Int)) (fun c => !capP c) (fun k hk => ?_) ?_
    · have h0 : (0 : Int) ≤ (k : Int) := by omega
      have h1 : (k : Int) < (l.length : Int) := by omega
      simp only [ite_if]; simp only [lt_d, len_d, cond_dec, h0, h1, if_true, rd_at l k hk, e1 _ (h.at hk), bind_some', next_id hk (by omega)]
      simp only [cond_if]; split <;> rfl
    · simp only [lt_d, len_d, cond_dec]; rw [if_neg (by omega)]
  rw [e]
  simp only [bind_some', le_d, ge_d, len_d, cond_dec, not_b]
  have e2 : l.all capP = !l.any (fun c => !capP c) := by rw [List.not_any_eq_all_not]; simp
  by_cases h1 : l.length ≤ 20
  · rw [if_pos (by omega), e2]
    cases h2 : l.any fun c => !capP c
    · simp [h1]
    · rw [if_pos rfl]; simp
  · rw [if_neg (by omega)]; simp [h1]

theorem spec_AreCaptures_is {l : List Capture} (h : ok l) : spec_AreCaptures l = some (areCapturesP l) := by
  have hl := h.1
  refine (loop_find l (fun k => ((k : Nat) : Int)) (fun x => if capP x = true then none else some false) (decide (l.length ≤ 20)) (fun k hk => ?_) ?_).trans ?_
  · have h0 : (0 : Int) ≤ (k : Int) := by omega
    have h1 : (k : Int) < (l.length : Int) := by omega
    have hr := (h.at hk).2.2.2.1.1
    simp only [ite_if]; simp only [lt_d, len_d, cond_dec, h0, h1, if_true, rd_at l k hk, spec_IsAddress_is, spec_l1In_is, spec_IsResource_is (r := (l[k]).2.2) (by omega), bind_some', next_id hk (by omega), cond_not]
    unfold capP
    by_cases c2 : 0 ≤ (l[k]).2.1 ∧ (l[k]).2.1 ≤ 2000 <;> cases addrP (l[k]).1 <;> cases resP (l[k]).2.2 <;> simp [c2]
  · simp only [lt_d, len_d, cond_dec]; rw [if_neg (by omega)]
    congr 2
    simp only [le_d]
    by_cases h1 : l.length ≤ 20 <;> simp [h1] <;> omega
  · unfold areCapturesP
    congr 1
    generalize decide (l.length ≤ 20) = q
    clear h hl
    induction l with
    | nil => simp
    | cons y ys ih2 =>
      rw [List.findSome?_cons, List.all_cons]
      cases hb : capP y
      · simp
      · simpa using ih2

end D
end Go.Sh
set_option linter.unusedVariables false
set_option linter.unusedSimpArgs false
set_option synthInstance.maxSize 100000
set_option maxHeartbeats 1000000
namespace Go.Sh
open Go Data
theorem find_all {α : Type} (xs : List α) (p : α → Bool) (q : Bool) : ((xs.findSome? fun x => if p x = true then none else some false).getD q) = (xs.all p && q) := by
  induction xs with
  | nil => simp
  | cons y ys ih =>
    rw [List.findSome?_cons, List.all_cons]
    cases hb : p y
    · simp
    · simpa using ih

namespace D
theorem impl_hasCapture_is {l : List Capture} (h : ok l) (x : Capture) : impl_hasCapture l x = some (decide (x ∈ l)) := by
  have hl := h.1
  have e : slices_IndexFunc_Capture_impl_hasCapture_1 l x = some (if l.any (fun y => decide (y = x)) = true then (l.findIdx (fun y => decide (y = x)) : Int) else -1) := by
    refine loop_index l (fun k => (k : Int)) (fun y => decide (y = x)) (fun k hk => ?_) ?_
    · have h0 : (0 : Int) ≤ (k : Int) := by omega
      have h1 : (k : Int) < (l.length : Int) := by omega
      simp only [ite_if]; simp only [lt_d, len_d, cond_dec, h0, h1, if_true, rd_at l k hk, impl_hasCapture_1, impl_sameCapture_is (h.at hk), bind_some', next_id hk (by omega), decide_eq_true_eq]
      split <;> rfl
    · simp only [lt_d, len_d, cond_dec]; rw [if_neg (by omega)]
  unfold impl_hasCapture slices_ContainsFunc_Capture_impl_hasCapture_1
  rw [e, bind_some', ge_d, bind_some']
  congr 1
  by_cases hx : x ∈ l
  · have : l.any (fun y => decide (y = x)) = true := List.any_eq_true.2 ⟨x, hx, by simp⟩
    rw [if_pos this]; simp [hx]
  · have : ¬ l.any (fun y => decide (y = x)) = true := fun h => by
      obtain ⟨y, hy, e⟩ := List.any_eq_true.1 h
      simp only [decide_eq_true_eq] at e; subst e; exact hx hy
    rw [if_neg this]; simp [hx]

end D
end Go.Sh
set_option linter.unusedVariables false
set_option linter.unusedSimpArgs false
set_option synthInstance.maxSize 100000
set_option maxHeartbeats 1000000
namespace Go.Sh
open Go Data
theorem loop_flat' {α β R : Type} {step : List β × Int → Option ((List β × Int) ⊕ R)} (xs : List α) (f : α → List β) (r : R)
    (hstep : ∀ (k : Nat) (hk : k < xs.length), step ((xs.take k).flatMap f, (k : Int)) = some (.inl ((xs.take k).flatMap f ++ f xs[k], ((k + 1 : Nat) : Int))))
    (hend : step (xs.flatMap f, (xs.length : Int)) = some (.inr r)) : loopF step ([], 0) = some r := by
  refine loop_upto (r := r) xs.length (fun k (a : List β) => (a, (k : Int))) (fun k => (xs.take k).flatMap f) (fun k hk => ?_) ?_
  · rw [hstep k hk, List.take_succ_eq_append_getElem hk, List.flatMap_append]; simp
  · rw [List.take_length]; exact hend

theorem nilc_same {α : Type} {x : List α} {y : Option (List α)} (h : y = some x) : N.nilc (N.isE x) (some []) y = some x := by
  unfold N.nilc
  subst h
  cases x with
  | nil => simp [N.isE]
  | cons a x => simp [N.isE]

namespace D
/-! ## Copies -/
theorem slices_Clone_int_is {l : List Int} (h : l.length ≤ 100000000) : slices_Clone_int l = some l := by
  unfold slices_Clone_int
  refine nilc_same ?_
  rw [nite_pos (fitsN (by simpa using h) (by omega))]; simp [N.app]

theorem impl_copyResource_is {r : Resource} (h : ok r) : impl_copyResource r = some (r.1, r.2.1, r.2.2.1, r.2.2.2.1, r.2.2.2.2) := by
  have := h.2.1.1
  unfold impl_copyResource
  rw [slices_Clone_int_is (by omega)]; rfl

theorem impl_copyCaptures_is {l : List Capture} (h : ok l) : impl_copyCaptures l = some l := by
  have hl := h.1
  refine (loop_flat l (fun c => [c]) (fun k hk => ?_) ?_).trans (by simp)
  · have h0 : (0 : Int) ≤ (k : Int) := by omega
    have h1 : (k : Int) < (l.length : Int) := by omega
    have h2 := take_flat_len (f := fun c : Capture => [c]) (m := 1) (xs := l) (fun x _ => by simp) (Nat.le_of_lt hk)
    simp only [ite_if]; simp only [lt_d, len_d, cond_dec, h0, h1, if_true, rd_at l k hk, next_id hk (by omega), impl_copyResource_is (h.at hk).2.2, bind_some']
    rw [if_pos (fitsN (by show (List.flatMap _ (l.take k)).length + 1 ≤ 100000000; omega) (by omega))]; rfl
  · simp only [lt_d, len_d, cond_dec]; rw [if_neg (by omega)]

end D
end Go.Sh
set_option linter.unusedVariables false
set_option linter.unusedSimpArgs false
set_option synthInstance.maxSize 100000
set_option maxHeartbeats 1000000
namespace Go.Sh
open Go Data
/-! ## What is drawn: it comes back, and keeps its bounds -/
def Gets {α : Type} (P : α → Prop) (r : Option α) : Prop := ∃ x, r = some x ∧ P x

section
variable {α β S R : Type} {P : α → Prop} {Q : R → Prop}
theorem Gets.bind {x : Option α} {f : α → Option R} (h : Gets P x) (hf : ∀ a, P a → Gets Q (f a)) : Gets Q (N.bind x f) := by
  obtain ⟨a, rfl, ha⟩ := h; exact hf a ha

theorem Gets.cond {b : Bool} {x y : Option R} (h1 : b = true → Gets Q x) (h2 : b = false → Gets Q y) : Gets Q (N.cond b x y) := by
  unfold N.cond; cases b
  · exact h2 rfl
  · exact h1 rfl

theorem Gets.ite {c : Prop} [Decidable c] {x y : Option R} (hc : c) (h : Gets Q x) : Gets Q (N.ite c x y) := by rw [nite_pos hc]; exact h

theorem Gets.let_ {x : α} {f : α → Option R} (h : Gets Q (f x)) : Gets Q (N.let_ x f) := h

end
theorem ok_num {x : Int} (h1 : -9223372036854775808 ≤ x) (h2 : x < 9223372036854775808) : ok x := ⟨h1, h2⟩

def few {α : Type} [Data α] (n : Nat) (xs : List α) : Prop := xs.length ≤ n ∧ ∀ x ∈ xs, ok x

theorem few.ok {α : Type} [Data α] {n : Nat} {xs : List α} (h : few n xs) (hn : n ≤ 1048576) : ok xs := ⟨Nat.le_trans h.1 hn, h.2⟩

theorem few.app {α : Type} [Data α] {n m : Nat} {xs : List α} {x : α} (h : few n xs) (hx : Data.ok x) (hm : n + 1 ≤ m) : few m (N.app xs [x]) :=
  ⟨by have := h.1; simp [N.app]; omega, fun y hy => by
    rcases List.mem_append.1 hy with hy | hy
    · exact h.2 y hy
    · simp at hy; subst hy; exact hx⟩

theorem few.set {α : Type} [Data α] {n : Nat} {xs : List α} {x : α} {i : Int} (h : few n xs) (hx : Data.ok x) : few n (N.set xs i x) :=
  ⟨by have := h.1; simp [N.set]; omega, fun y hy => by
    rcases List.mem_or_eq_of_mem_set hy with hy | hy
    · exact h.2 y hy
    · subst hy; exact hx⟩

theorem few.rd {α : Type} [Data α] {n : Nat} {xs : List α} {i : Int} {d : α} (h : few n xs) (hd : Data.ok d) : Data.ok (N.rd xs i d) := by
  unfold N.rd
  rw [List.getD_eq_getElem?_getD]
  cases e : xs[i.toNat]? with
  | none => exact hd
  | some x => exact h.2 x (List.mem_of_getElem? e)

namespace D
end D
end Go.Sh
set_option linter.unusedVariables false
set_option linter.unusedSimpArgs false
set_option synthInstance.maxSize 100000
set_option maxHeartbeats 2000000
namespace Go.Sh
open Go Data
namespace D
end D
end Go.Sh
set_option linter.unusedVariables false
set_option linter.unusedSimpArgs false
set_option synthInstance.maxSize 100000
set_option maxHeartbeats 2000000
namespace Go.Sh
open Go Data
namespace D
end D
end Go.Sh
set_option linter.unusedVariables false
set_option linter.unusedSimpArgs false
set_option synthInstance.maxSize 100000
set_option maxHeartbeats 4000000
namespace Go.Sh
open Go Data
namespace D
end D
end Go.Sh
set_option linter.unusedVariables false
set_option linter.unusedSimpArgs false
set_option synthInstance.maxSize 100000
set_option maxHeartbeats 4000000
namespace Go.Sh
open Go Data
namespace D
end D
end Go.Sh
set_option linter.unusedVariables false
set_option linter.unusedSimpArgs false
set_option synthInstance.maxSize 100000
set_option maxHeartbeats 4000000
namespace Go.Sh
open Go Data
namespace D
end D
end Go.Sh
set_option linter.unusedVariables false
set_option linter.unusedSimpArgs false
set_option synthInstance.maxSize 100000
set_option maxHeartbeats 4000000
namespace Go.Sh
open Go Data
namespace D
end D
end Go.Sh
set_option linter.unusedVariables false
set_option linter.unusedSimpArgs false
set_option synthInstance.maxSize 100000
set_option maxHeartbeats 4000000
namespace Go.Sh
open Go Data
namespace D
/-! ## Marks of nested lists: they come back -/
theorem laws_markIntS_len {x : List Int} {k : Int} (h0 : 0 ≤ k) (hk : k ≤ 8000000000000000000) (hl : x.length ≤ 1048576) : laws_markIntS x k = some (k + 1 * x.length, markL mkIntS 1 x k) := by
  refine mark_loop (B := 9000000000000000000) (c := 1) (mk := mkIntS) (by omega) (fun k i ys hi h0 h1 hl => ?_) (fun k ys => ?_) h0 (by omega) hl
  · have i0 : (0 : Int) ≤ (i : Int) := by omega
    have i1 : (i : Int) < (ys.length : Int) := by omega
    have a0 : N.add .i64 (k) 1 = k + 1 := add_id (by omega) (by omega)
    have e : k + 1 = k + 1 := by omega
    simp only [ite_if]; (try simp only [let_eq, len_set]); simp only [set_set, rd_set hi, lt_d, len_d, cond_dec, i0, i1, if_true, a0, eq_d, next_id hi (by omega), e]
    rw [set_at]; rfl
  · simp only [lt_d, len_d, cond_dec]; rw [if_neg (by omega)]

end D
end Go.Sh
set_option linter.unusedVariables false
set_option linter.unusedSimpArgs false
set_option synthInstance.maxSize 100000
set_option maxHeartbeats 4000000
namespace Go.Sh
open Go Data
namespace D
end D
end Go.Sh
set_option linter.unusedVariables false
set_option linter.unusedSimpArgs false
set_option synthInstance.maxSize 100000
set_option maxHeartbeats 4000000
namespace Go.Sh
open Go Data
/-! ## Marks of lists whose elements take different numbers of marks -/
def sumW {α : Type} (we : α → Int) : List α → Int
  | [] => 0
  | x :: xs => we x + sumW we xs

theorem sumW_app {α : Type} {we : α → Int} : ∀ (xs ys : List α), sumW we (xs ++ ys) = sumW we xs + sumW we ys
  | [], ys => by simp [sumW]
  | x :: xs, ys => by simp only [List.cons_append, sumW, sumW_app xs ys]; omega

theorem sumW_nonneg {α : Type} {we : α → Int} (hw : ∀ x, 0 ≤ we x) : ∀ (xs : List α), 0 ≤ sumW we xs
  | [] => by simp [sumW]
  | x :: xs => by have := sumW_nonneg hw xs; have := hw x; simp only [sumW]; omega

theorem sumW_le {α : Type} {we : α → Int} {m : Int} : ∀ (xs : List α), (∀ x ∈ xs, we x ≤ m) → sumW we xs ≤ m * xs.length
  | [], _ => by simp [sumW]
  | x :: xs, h => by
    have h1 := sumW_le xs fun y hy => h y (by simp [hy])
    have h2 := h x (by simp)
    simp only [sumW, List.length_cons]
    rw [show ((xs.length + 1 : Nat) : Int) = (xs.length : Int) + 1 from by omega, Int.mul_add, Int.mul_one]; omega

theorem sumW_take {α : Type} {we : α → Int} (hw : ∀ x, 0 ≤ we x) (xs : List α) (i : Nat) (hi : i < xs.length) : 0 ≤ sumW we (xs.take i) ∧ sumW we (xs.take i) + we xs[i] ≤ sumW we xs := by
  refine ⟨sumW_nonneg hw _, ?_⟩
  have : sumW we xs = sumW we (xs.take i) + sumW we (xs.drop i) := by rw [← sumW_app, List.take_append_drop]
  rw [this, List.drop_eq_getElem_cons hi]
  have := sumW_nonneg hw (xs.drop (i + 1))
  simp only [sumW]; omega

def markW {α : Type} (mk : Int → α → α) (we : α → Int) : List α → Int → List α
  | [], _ => []
  | x :: xs, k => mk k x :: markW mk we xs (k + we x)

theorem markW_len {α : Type} {mk : Int → α → α} {we : α → Int} : ∀ (xs : List α) (k : Int), (markW mk we xs k).length = xs.length
  | [], _ => rfl
  | x :: xs, k => by simp [markW, markW_len xs]

theorem markW_app {α : Type} {mk : Int → α → α} {we : α → Int} : ∀ (xs ys : List α) (k : Int), markW mk we (xs ++ ys) k = markW mk we xs k ++ markW mk we ys (k + sumW we xs)
  | [], ys, k => by simp [markW, sumW]
  | x :: xs, ys, k => by
    simp only [List.cons_append, markW, markW_app xs ys, sumW]
    rw [Int.add_assoc]

theorem markW_at {α : Type} {mk : Int → α → α} {we : α → Int} : ∀ (xs : List α) (k : Int) (i : Nat) (hi : i < xs.length) (hi' : i < (markW mk we xs k).length), (markW mk we xs k)[i] = mk (k + sumW we (xs.take i)) xs[i]
  | x :: xs, k, 0, _, _ => by simp [markW, sumW]
  | x :: xs, k, i + 1, hi, hi' => by
    simp only [markW, List.getElem_cons_succ, List.take_succ_cons, sumW]
    rw [markW_at xs (k + we x) i (by simpa using hi), Int.add_assoc]

theorem mark_loopW {α : Type} {step : Int × Int × List α → Option ((Int × Int × List α) ⊕ (Int × List α))} {we : α → Int} {B : Int} {L : Nat} {mk : Int → α → α} {P : α → Prop} (hw : ∀ x, 0 ≤ we x)
    (hstep : ∀ (k : Int) (i : Nat) (ys : List α) (hi : i < ys.length), 0 ≤ k → k + we ys[i] ≤ B → ys.length ≤ L → P ys[i] → step (k, (i : Int), ys) = some (.inl (k + we ys[i], ((i + 1 : Nat) : Int), ys.set i (mk k ys[i]))))
    (hend : ∀ (k : Int) (ys : List α), step (k, (ys.length : Int), ys) = some (.inr (k, ys))) {xs : List α} {k : Int} (h0 : 0 ≤ k) (hB : k + sumW we xs ≤ B) (hl : xs.length ≤ L) (hp : ∀ x ∈ xs, P x) :
    loopF step (k, 0, xs) = some (k + sumW we xs, markW mk we xs k) := by
  have key : ∀ (m i : Nat), i + m = xs.length → loopF step (k + sumW we (xs.take i), (i : Int), markW mk we (xs.take i) k ++ xs.drop i) = some (k + sumW we xs, markW mk we xs k) := by
    intro m
    induction m with
    | zero =>
      intro i hi
      have hi' : i = xs.length := by omega
      subst hi'
      rw [List.take_length, List.drop_length, List.append_nil]
      have := hend (k + sumW we xs) (markW mk we xs k)
      rw [markW_len] at this
      exact loopF_inr this
    | succ m ih =>
      intro i hi
      have hlt : i < xs.length := by omega
      have hge := sumW_take hw xs i hlt
      have hlen : (markW mk we (xs.take i) k).length = i := by rw [markW_len, List.length_take]; omega
      have hlen2 : i < (markW mk we (xs.take i) k ++ xs.drop i).length := by rw [List.length_append, hlen, List.length_drop]; omega
      have e1 : (markW mk we (xs.take i) k ++ xs.drop i)[i]'hlen2 = xs[i] := by
        rw [List.getElem_append_right (by omega)]
        simp only [hlen, Nat.sub_self, List.getElem_drop, Nat.add_zero]
      have e2 : (markW mk we (xs.take i) k ++ xs.drop i).set i (mk (k + sumW we (xs.take i)) xs[i]) = markW mk we (xs.take (i + 1)) k ++ xs.drop (i + 1) := by
        rw [List.take_succ_eq_append_getElem hlt, markW_app, List.set_append_right _ _ (by omega), hlen, Nat.sub_self, List.drop_eq_getElem_cons hlt, List.set_cons_zero, List.append_assoc]; rfl
      have e3 : sumW we (xs.take (i + 1)) = sumW we (xs.take i) + we xs[i] := by
        rw [List.take_succ_eq_append_getElem hlt, sumW_app]; simp [sumW]
      have hs := hstep (k + sumW we (xs.take i)) i (markW mk we (xs.take i) k ++ xs.drop i) hlen2 (by omega) (by rw [e1]; omega) (by rw [List.length_append, hlen, List.length_drop]; omega) (by rw [e1]; exact hp _ (List.getElem_mem hlt))
      rw [loopF_inl hs, e1, e2, Int.add_assoc, ← e3]
      exact ih (i + 1) (by omega)
  have := key xs.length 0 (by omega)
  simpa [markW, sumW] using this

theorem held_loopW {α : Type} {step : Int × Int → Option ((Int × Int) ⊕ Int)} {we : α → Int} {B : Int} {mk : Int → α → α} {P : α → Prop} {xs : List α} {k : Int} (hw : ∀ x, 0 ≤ we x)
    (hstep : ∀ (q : Int) (i : Nat) (hi : i < xs.length) (hi' : i < (markW mk we xs k).length), (markW mk we xs k)[i] = mk q xs[i] → 0 ≤ q → q + we xs[i] ≤ B → P xs[i] → step (q, (i : Int)) = some (.inl (q + we xs[i], ((i + 1 : Nat) : Int))))
    (hend : ∀ (q : Int), step (q, (xs.length : Int)) = some (.inr q)) (h0 : 0 ≤ k) (hB : k + sumW we xs ≤ B) (hp : ∀ x ∈ xs, P x) : loopF step (k, 0) = some (k + sumW we xs) := by
  have := loop_upto (step := step) (r := k + sumW we xs) xs.length (fun i (q : Int) => (q, (i : Int))) (fun i => k + sumW we (xs.take i)) (fun i hi => ?_) ?_
  · simpa [sumW] using this
  · have hge := sumW_take hw xs i hi
    have hi' : i < (markW mk we xs k).length := by rw [markW_len]; exact hi
    rw [hstep (k + sumW we (xs.take i)) i hi hi' (markW_at xs k i hi hi') (by omega) (by omega) (hp _ (List.getElem_mem hi))]
    have e3 : sumW we (xs.take (i + 1)) = sumW we (xs.take i) + we xs[i] := by
      rw [List.take_succ_eq_append_getElem hi, sumW_app]; simp [sumW]
    rw [Int.add_assoc, ← e3]
  · rw [hend, List.take_length]

end Go.Sh
set_option linter.unusedVariables false
set_option linter.unusedSimpArgs false
set_option synthInstance.maxSize 100000
set_option maxHeartbeats 4000000
namespace Go.Sh
open Go Data
theorem set_length {α : Type} (xs : List α) (i : Int) (v : α) : (N.set xs i v).length = xs.length := by simp [N.set]

namespace D
/-! ## Marks of captures -/
def wCaptureS (c : Capture) : Int := 8 + c.2.2.2.1.length

def mkCaptureS (k : Int) (c : Capture) : Capture :=
  ((k, k + 1, k + 1 + 1), k + 1 + 1 + 1, (k + 1 + 1 + 1 + 1, markL mkIntS 1 c.2.2.2.1 (k + 1 + 1 + 1 + 1 + 1), (k + 1 + 1 + 1 + 1 + 1 + 1 * c.2.2.2.1.length, k + 1 + 1 + 1 + 1 + 1 + 1 * c.2.2.2.1.length + 1, k + 1 + 1 + 1 + 1 + 1 + 1 * c.2.2.2.1.length + 1 + 1)))

theorem wCaptureS_pos (c : Capture) : 0 ≤ wCaptureS c := by unfold wCaptureS; omega

theorem wCaptureS_le {x : List Capture} (h : ok x) : sumW wCaptureS x ≤ 2000000 * 1048576 := by
  have h1 := sumW_le (we := wCaptureS) (m := 2000000) x fun c hc => by
    have := (h.2 c hc).2.2.2.1.1
    unfold wCaptureS; omega
  have := h.1
  omega

theorem laws_markCaptureS_is {x : List Capture} {k : Int} (h0 : 0 ≤ k) (hk : k ≤ 7000000000000000000) (h : ok x) : laws_markCaptureS x k = some (k + sumW wCaptureS x, markW mkCaptureS wCaptureS x k) := by
  have hs := wCaptureS_le h
  refine mark_loopW (we := wCaptureS) (B := 8000000000000000000) (mk := mkCaptureS) (P := ok) wCaptureS_pos (fun k i ys hi h0 h1 hl hp => ?_) (fun k ys => ?_) h0 (by omega) h.1 h.2
  · have i0 : (0 : Int) ≤ (i : Int) := by omega
    have i1 : (i : Int) < (ys.length : Int) := by omega
    have hb := hp.2.2.2.1.1
    unfold wCaptureS at h1 ⊢
    have a0 : N.add .i64 (k) 1 = k + 1 := add_id (by omega) (by omega)
    have a1 : N.add .i64 (k + 1) 1 = k + 1 + 1 := add_id (by omega) (by omega)
    have a2 : N.add .i64 (k + 1 + 1) 1 = k + 1 + 1 + 1 := add_id (by omega) (by omega)
    have a3 : N.add .i64 (k + 1 + 1 + 1) 1 = k + 1 + 1 + 1 + 1 := add_id (by omega) (by omega)
    have a4 : N.add .i64 (k + 1 + 1 + 1 + 1) 1 = k + 1 + 1 + 1 + 1 + 1 := add_id (by omega) (by omega)
    have m0 := laws_markIntS_len (x := (ys[i]).2.2.2.1) (k := k + 1 + 1 + 1 + 1 + 1) (by omega) (by omega) hb
    generalize hK : k + 1 + 1 + 1 + 1 + 1 + 1 * ((ys[i]).2.2.2.1.length : Int) = K at m0
    have b0 : N.add .i64 K 1 = K + 1 := add_id (by omega) (by omega)
    have b1 : N.add .i64 (K + 1) 1 = K + 1 + 1 := add_id (by omega) (by omega)
    have b2 : N.add .i64 (K + 1 + 1) 1 = K + 1 + 1 + 1 := add_id (by omega) (by omega)
    have e : k + (8 + ((ys[i]).2.2.2.1.length : Int)) = K + 1 + 1 + 1 := by omega
    simp only [ite_if, let_eq, set_length, List.length_set, set_set, rd_set hi, lt_d, len_d, cond_dec, i0, i1, if_true, a0, a1, a2, a3, a4, rd_at ys i hi, m0, bind_some', b0, b1, b2, next_id hi (by omega), e]
    rw [set_at]
    unfold mkCaptureS
    rw [hK]
  · simp only [lt_d, len_d, cond_dec]; rw [if_neg (by omega)]

theorem laws_heldCaptureS_is {x : List Capture} {k0 : Int} (h0 : 0 ≤ k0) (hk : k0 ≤ 7000000000000000000) (h : ok x) : laws_heldCaptureS (markW mkCaptureS wCaptureS x k0) k0 = some (k0 + sumW wCaptureS x) := by
  have hs := wCaptureS_le h
  have hl := h.1
  refine held_loopW (we := wCaptureS) (B := 8000000000000000000) (mk := mkCaptureS) (P := ok) (xs := x) wCaptureS_pos (fun k i hi hi' hm h0 h1 hp => ?_) (fun q => ?_) h0 (by omega) h.2
  · have i0 : (0 : Int) ≤ (i : Int) := by omega
    have i1 : (i : Int) < (x.length : Int) := by omega
    have hb := hp.2.2.2.1
    have hbl := hb.1
    have hw : wCaptureS x[i] = 8 + ((x[i]).2.2.2.1.length : Int) := rfl
    rw [hw] at h1 ⊢
    have a0 : N.add .i64 (k) 1 = k + 1 := add_id (by omega) (by omega)
    have a1 : N.add .i64 (k + 1) 1 = k + 1 + 1 := add_id (by omega) (by omega)
    have a2 : N.add .i64 (k + 1 + 1) 1 = k + 1 + 1 + 1 := add_id (by omega) (by omega)
    have a3 : N.add .i64 (k + 1 + 1 + 1) 1 = k + 1 + 1 + 1 + 1 := add_id (by omega) (by omega)
    have a4 : N.add .i64 (k + 1 + 1 + 1 + 1) 1 = k + 1 + 1 + 1 + 1 + 1 := add_id (by omega) (by omega)
    have m0 := laws_heldIntS_is (x := (x[i]).2.2.2.1) (k := k + 1 + 1 + 1 + 1 + 1) (by omega) (by omega) hb
    have hrd : ∀ d, N.rd (markW mkCaptureS wCaptureS x k0) (i : Int) d = ((k, k + 1, k + 1 + 1), k + 1 + 1 + 1, (k + 1 + 1 + 1 + 1, markL mkIntS 1 (x[i]).2.2.2.1 (k + 1 + 1 + 1 + 1 + 1), (k + 1 + 1 + 1 + 1 + 1 + 1 * (x[i]).2.2.2.1.length, k + 1 + 1 + 1 + 1 + 1 + 1 * (x[i]).2.2.2.1.length + 1, k + 1 + 1 + 1 + 1 + 1 + 1 * (x[i]).2.2.2.1.length + 1 + 1))) := fun d => by rw [rd_at _ i hi', hm]; rfl
    generalize hK : k + 1 + 1 + 1 + 1 + 1 + 1 * ((x[i]).2.2.2.1.length : Int) = K at m0 hrd
    have b0 : N.add .i64 K 1 = K + 1 := add_id (by omega) (by omega)
    have b1 : N.add .i64 (K + 1) 1 = K + 1 + 1 := add_id (by omega) (by omega)
    have b2 : N.add .i64 (K + 1 + 1) 1 = K + 1 + 1 + 1 := add_id (by omega) (by omega)
    have e : k + (8 + ((x[i]).2.2.2.1.length : Int)) = K + 1 + 1 + 1 := by omega
    have n0 : ¬ K < 0 := by omega
    simp only [ite_if, lt_d, len_d, markW_len, cond_dec, i0, i1, if_true, a0, a1, a2, a3, a4, hrd, m0, bind_some', n0, if_false, b0, b1, b2, ne_d, not_true_eq_false, next_id hi (by omega), e]
  · simp only [lt_d, len_d, markW_len, cond_dec]; rw [if_neg (by omega)]

end D
end Go.Sh
set_option linter.unusedVariables false
set_option linter.unusedSimpArgs false
set_option synthInstance.maxSize 100000
set_option maxHeartbeats 4000000
namespace Go.Sh
open Go Data
namespace D
end D
end Go.Sh
set_option linter.unusedVariables false
set_option linter.unusedSimpArgs false
set_option synthInstance.maxSize 100000
set_option maxHeartbeats 4000000
namespace Go.Sh
open Go Data
namespace D
end D
end Go.Sh
set_option linter.unusedVariables false
set_option linter.unusedSimpArgs false
set_option synthInstance.maxSize 100000
set_option maxHeartbeats 4000000
namespace Go.Sh
open Go Data
namespace D
end D
end Go.Sh
set_option linter.unusedVariables false
set_option linter.unusedSimpArgs false
set_option synthInstance.maxSize 100000
set_option maxHeartbeats 4000000
namespace Go.Sh
open Go Data
namespace D
end D
end Go.Sh
set_option linter.unusedVariables false
set_option linter.unusedSimpArgs false
set_option synthInstance.maxSize 100000
set_option maxHeartbeats 4000000
namespace Go.Sh
open Go Data
namespace D
end D
end Go.Sh
set_option linter.unusedVariables false
set_option linter.unusedSimpArgs false
set_option synthInstance.maxSize 100000
set_option maxHeartbeats 4000000
namespace Go.Sh
open Go Data
def goE {α σ R : Type} (body : α → σ → σ ⊕ R) (fin : σ → R) : List α → σ → R
  | [], a => fin a
  | x :: xs, a => Sum.elim (goE body fin xs) id (body x a)
/-- a loop over a list that may stop, with what is known at each round -/
theorem loop_eachI {α σ S R : Type} {step : S → Option (S ⊕ R)} (xs : List α) (emb : Nat → σ → S) (body : α → σ → σ ⊕ R) (fin : σ → R) (I : Nat → σ → Prop)
    (hstep : ∀ (k : Nat) (hk : k < xs.length) (a : σ), I k a → step (emb k a) = some (Sum.elim (fun a' => .inl (emb (k + 1) a')) .inr (body xs[k] a)) ∧ ∀ a', body xs[k] a = .inl a' → I (k + 1) a')
    (hend : ∀ a, I xs.length a → step (emb xs.length a) = some (.inr (fin a))) (a : σ) (h : I 0 a) : loopF step (emb 0 a) = some (goE body fin xs a) := by
  have key : ∀ (m k : Nat) (a : σ), k + m = xs.length → I k a → loopF step (emb k a) = some (goE body fin (xs.drop k) a) := by
    intro m
    induction m with
    | zero =>
      intro k a hk hI
      have hk' : k = xs.length := by omega
      subst hk'
      rw [loopF_inr (hend a hI), List.drop_length]; rfl
    | succ m ih =>
      intro k a hk hI
      have hlt : k < xs.length := by omega
      obtain ⟨h1, h2⟩ := hstep k hlt a hI
      rw [List.drop_eq_getElem_cons hlt]
      simp only [goE]
      cases hb : body xs[k] a with
      | inl a' =>
        rw [hb] at h1
        rw [loopF_inl h1]
        exact ih (k + 1) a' (by omega) (h2 a' hb)
      | inr r =>
        rw [hb] at h1
        rw [loopF_inr h1]; rfl
  simpa using key xs.length 0 a (by omega) h

namespace D
/-! ## Editions -/
def inT (f u : Int) (c : Capture) : Bool := decide (f ≤ c.2.1 ∧ c.2.1 ≤ u)
def wantC (f u : Int) (hid : List Address) (c : Capture) : Bool := inT f u c && !decide (c.1 ∈ hid)
def addD (acc : List Capture) (c : Capture) : List Capture := if c ∈ acc then acc else acc ++ [c]
def mk1 (f u : Int) (hid : List Address) (acc l : List Capture) : List Capture := (l.filter (wantC f u hid)).foldl addD acc
theorem addD_mem {acc : List Capture} {c x : Capture} : x ∈ addD acc c ↔ x ∈ acc ∨ x = c := by
  unfold addD
  split
  · rename_i h
    exact ⟨.inl, fun h' => h'.elim id fun e => e ▸ h⟩
  · simp
theorem adds_mem : ∀ {l acc : List Capture} {x : Capture}, x ∈ l.foldl addD acc ↔ x ∈ acc ∨ x ∈ l
  | [], acc, x => by simp
  | c :: l, acc, x => by rw [List.foldl_cons, adds_mem, addD_mem, List.mem_cons, or_assoc]
theorem adds_len : ∀ (l acc : List Capture), acc.length ≤ (l.foldl addD acc).length ∧ (l.foldl addD acc).length ≤ acc.length + l.length
  | [], acc => by simp
  | c :: l, acc => by
    have h := adds_len l (addD acc c)
    have h2 : acc.length ≤ (addD acc c).length ∧ (addD acc c).length ≤ acc.length + 1 := by
      unfold addD; split <;> simp
    rw [List.foldl_cons, List.length_cons]; omega
theorem adds_nodup : ∀ (l : List Capture) {acc : List Capture}, acc.Nodup → (l.foldl addD acc).Nodup
  | [], acc, h => h
  | c :: l, acc, h => by
    rw [List.foldl_cons]
    refine adds_nodup l ?_
    unfold addD
    split
    · exact h
    · rename_i hc
      rw [List.nodup_append]
      exact ⟨h, by simp, fun a ha b hb e => by simp only [List.mem_singleton] at hb; subst hb; subst e; exact hc ha⟩
theorem mk1_mem {f u : Int} {hid : List Address} {acc l : List Capture} {x : Capture} : x ∈ mk1 f u hid acc l ↔ x ∈ acc ∨ (x ∈ l ∧ wantC f u hid x = true) := by
  unfold mk1; rw [adds_mem, List.mem_filter]
theorem mk1_len (f u : Int) (hid : List Address) (acc l : List Capture) : acc.length ≤ (mk1 f u hid acc l).length ∧ (mk1 f u hid acc l).length ≤ acc.length + l.length := by
  have h := adds_len (l.filter (wantC f u hid)) acc
  have := List.length_filter_le (wantC f u hid) l
  unfold mk1; omega
theorem areCap_spec {l : List Capture} : areCapturesP l = true ↔ l.length ≤ 20 ∧ ∀ c ∈ l, capP c = true := by
  unfold areCapturesP; simp only [Bool.and_eq_true, decide_eq_true_eq, List.all_eq_true]
theorem mk1_up {f u : Int} {hid : List Address} {acc l : List Capture} (h : areCapturesP (mk1 f u hid acc l) = true) : areCapturesP acc = true := by
  rw [areCap_spec] at h ⊢
  have := mk1_len f u hid acc l
  exact ⟨by omega, fun c hc => h.2 c (mk1_mem.2 (.inl hc))⟩
theorem mk1_ok {f u : Int} {hid : List Address} {acc l : List Capture} (ha : ∀ c ∈ acc, ok c) (hl : ∀ c ∈ l, ok c) : ∀ c ∈ mk1 f u hid acc l, ok c := fun c hc => by
  rcases mk1_mem.1 hc with hc | ⟨hc, _⟩
  · exact ha c hc
  · exact hl c hc

abbrev EdR : Type := List Capture × Int × Int × List Address × Bool
def zeroR : EdR := ([], 0, 0, [], false)
def bodyS (f u : Int) (hid : List Address) (l acc : List Capture) : List Capture ⊕ EdR := if areCapturesP l = true then .inl (mk1 f u hid acc l) else .inr zeroR
def bodyI (f u : Int) (hid : List Address) (l acc : List Capture) : List Capture ⊕ EdR := if areCapturesP l = true then (if areCapturesP (mk1 f u hid acc l) = true then .inl (mk1 f u hid acc l) else .inr zeroR) else .inr zeroR
def finS (f u : Int) (hid : List Address) (acc : List Capture) : EdR := if areCapturesP acc = true then (acc, f, u, hid, true) else zeroR
def finI (f u : Int) (hid : List Address) (acc : List Capture) : EdR := (acc, f, u, hid, true)
theorem go_bad (f u : Int) (hid : List Address) : ∀ (ls : List (List Capture)) (acc : List Capture), ¬ areCapturesP acc = true → goE (bodyS f u hid) (finS f u hid) ls acc = zeroR
  | [], acc, h => by simp only [goE, finS]; rw [if_neg h]
  | l :: ls, acc, h => by
    simp only [goE, bodyS]
    split
    · exact go_bad f u hid ls _ fun h' => h (mk1_up h')
    · rfl
theorem go_same (f u : Int) (hid : List Address) : ∀ (ls : List (List Capture)) (acc : List Capture), areCapturesP acc = true → goE (bodyI f u hid) (finI f u hid) ls acc = goE (bodyS f u hid) (finS f u hid) ls acc
  | [], acc, h => by simp only [goE, finS, finI]; rw [if_pos h]
  | l :: ls, acc, h => by
    simp only [goE, bodyS, bodyI]
    by_cases h1 : areCapturesP l = true
    · rw [if_pos h1, if_pos h1]
      by_cases h2 : areCapturesP (mk1 f u hid acc l) = true
      · rw [if_pos h2]; exact go_same f u hid ls _ h2
      · rw [if_neg h2]; exact (go_bad f u hid ls _ h2).symm
    · rw [if_neg h1, if_neg h1]; rfl

theorem impl_AddCaptures_is {a b : List Capture} (ha : few 100000 a) (hb : few 100000 b) : impl_AddCaptures a b = some (if areCapturesP (b.foldl addD a) = true then (b.foldl addD a, true) else (a, false)) := by
  have hla := ha.1; have hlb := hb.1
  unfold impl_AddCaptures
  rw [impl_copyCaptures_is (ha.ok (by omega)), bind_some']
  have hpre : ∀ k, few 200000 ((b.take k).foldl addD a) := fun k => by
    have := adds_len (b.take k) a
    have h2 := List.length_take_le k b
    have h3 := List.length_take_le' k b
    exact ⟨by omega, fun c hc => by
      rcases adds_mem.1 hc with hc | hc
      · exact ha.2 c hc
      · exact hb.2 c (List.mem_of_mem_take hc)⟩
  refine loop_upto b.length (fun k (acc : List Capture) => (acc, (k : Int))) (fun k => (b.take k).foldl addD a) _ (fun k hk => ?_) ?_
  · have h0 : (0 : Int) ≤ (k : Int) := by omega
    have h1 : (k : Int) < (b.length : Int) := by omega
    have hp := hpre k
    rw [List.take_succ_eq_append_getElem hk, List.foldl_append, List.foldl_cons, List.foldl_nil]
    generalize (b.take k).foldl addD a = acc at hp ⊢
    simp only [ite_if]; simp only [lt_d, len_d, cond_dec, h0, h1, if_true, rd_at b k hk, next_id hk (by omega), impl_hasCapture_is (hp.ok (by omega)), bind_some', not_d, impl_copyResource_is (hb.2 _ (List.getElem_mem hk)).2.2]
    unfold addD
    by_cases hm : b[k] ∈ acc
    · simp [hm]
    · have hf := hp.1
      simp only [hm, not_false_eq_true, if_true, if_false]
      rw [if_pos (fitsN (by simp; omega) (by omega))]; rfl
  · have hp := hpre b.length
    rw [List.take_length] at hp ⊢
    simp only [lt_d, len_d, cond_dec]; rw [if_neg (by omega), impl_AreCaptures_is (hp.ok (by omega)), bind_some', cond_not, cond_if]
    split
    · rfl
    · rfl
theorem outside_filter (l : List Capture) (hid : List Address) : outsideP l hid = l.filter fun c => !decide (c.1 ∈ hid) := by
  unfold outsideP
  induction l with
  | nil => rfl
  | cons c l ih => rw [List.flatMap_cons, ih, List.filter_cons]; by_cases hc : c.1 ∈ hid <;> simp [hc]
theorem spec_l20In_long {l : List Capture} (hl : l.length ≤ 4611686018427387904) (h : ∀ c ∈ l, ok c) (x : Capture) : spec_l20In l x = some (decide (x ∈ l)) := by
  have e : l.any (fun y => decide (y = x)) = decide (x ∈ l) := by
    by_cases hx : x ∈ l
    · have : l.any (fun y => decide (y = x)) = true := List.any_eq_true.2 ⟨x, hx, by simp⟩
      simp [this, hx]
    · have : ¬ l.any (fun y => decide (y = x)) = true := fun h => by
        obtain ⟨y, hy, e⟩ := List.any_eq_true.1 h
        simp only [decide_eq_true_eq] at e; subst e; exact hx hy
      simp only [Bool.not_eq_true] at this
      simp [hx, this]
  rw [← e]
  refine loop_any l (fun k => (k : Int)) (fun y => decide (y = x)) (fun k hk => ?_) ?_
  · have h0 : (0 : Int) ≤ (k : Int) := by omega
    have h1 : (k : Int) < (l.length : Int) := by omega
    simp only [ite_if]; simp only [lt_d, len_d, cond_dec, h0, h1, if_true, rd_at l k hk, spec_l15Same_is (h _ (List.getElem_mem hk)), bind_some', next_id hk (by omega), decide_eq_true_eq]
    split <;> rfl
  · simp only [lt_d, len_d, cond_dec]; rw [if_neg (by omega)]
theorem spec_AreCaptures_long {l : List Capture} (hl : l.length ≤ 4611686018427387904) (h : ∀ c ∈ l, ok c) : spec_AreCaptures l = some (areCapturesP l) := by
  refine (loop_find l (fun k => ((k : Nat) : Int)) (fun x => if capP x = true then none else some false) (decide (l.length ≤ 20)) (fun k hk => ?_) ?_).trans ?_
  · have h0 : (0 : Int) ≤ (k : Int) := by omega
    have h1 : (k : Int) < (l.length : Int) := by omega
    have hr := (h _ (List.getElem_mem hk)).2.2.2.1.1
    simp only [ite_if]; simp only [lt_d, len_d, cond_dec, h0, h1, if_true, rd_at l k hk, spec_IsAddress_is, spec_l1In_is, spec_IsResource_is (r := (l[k]).2.2) (by omega), bind_some', next_id hk (by omega), cond_not]
    unfold capP
    by_cases c2 : 0 ≤ (l[k]).2.1 ∧ (l[k]).2.1 ≤ 2000 <;> cases addrP (l[k]).1 <;> cases resP (l[k]).2.2 <;> simp [c2]
  · simp only [lt_d, len_d, cond_dec]; rw [if_neg (by omega)]
    congr 2
    simp only [le_d]
    by_cases h1 : l.length ≤ 20 <;> simp [h1] <;> omega
  · rw [find_all, Bool.and_comm]; rfl
def makeP (ls : List (List Capture)) (f u : Int) (hid : List Address) : EdR :=
  if (0 ≤ f ∧ f ≤ 2000) ∧ f ≤ u ∧ u ≤ 2000 then goE (bodyS f u hid) (finS f u hid) ls [] else zeroR
theorem slices_Clone_Address_is {l : List Address} (h : l.length ≤ 100000000) : slices_Clone_Address l = some l := by
  unfold slices_Clone_Address
  refine nilc_same ?_
  rw [nite_pos (fitsN (by simpa using h) (by omega))]; simp [N.app]
theorem impl_MakeEdition_is {ls : List (List Capture)} {f u : Int} {hid : List Address} (hls : ok ls) (hh : ok hid) : impl_MakeEdition ls f u hid = some (makeP ls f u hid) := by
  have hl := hls.1; have hhl := hh.1
  unfold impl_MakeEdition makeP
  rw [impl_InRange_is, bind_some', not_d, cond_dec, impl_InRange_is, bind_some', not_d, cond_dec]
  by_cases h1 : 0 ≤ f ∧ f ≤ 2000
  · by_cases h2 : f ≤ u ∧ u ≤ 2000
    · rw [if_neg (by simpa using h1), if_neg (by simpa using h2), if_pos ⟨h1, h2.1, h2.2⟩, slices_Clone_Address_is (by omega), bind_some', ← go_same f u hid ls [] (by decide)]
      refine loop_eachI ls (fun k (acc : List Capture) => ((k : Int), (([], 0, 0, []) : Edition), ((acc, f, u, hid) : Edition))) (bodyI f u hid) (finI f u hid) (fun k acc => areCapturesP acc = true ∧ ∀ c ∈ acc, ok c) (fun k hk acc hI => ?_) (fun acc hI => ?_) [] ⟨by decide, fun _ h => (by cases h)⟩
      · have h0 : (0 : Int) ≤ (k : Int) := by omega
        have h3 : (k : Int) < (ls.length : Int) := by omega
        have hlk := hls.at hk
        obtain ⟨hI1, hI2⟩ := hI
        have ha := areCap_spec.1 hI1
        refine ⟨?_, fun a' ha' => ?_⟩
        · simp only [ite_if]; simp only [lt_d, len_d, cond_dec, h0, h3, if_true, rd_at ls k hk, next_id hk (by omega), impl_AreCaptures_is hlk, bind_some', cond_not, cond_if]
          unfold bodyI
          by_cases hc : areCapturesP ls[k] = true
          · simp only [hc, if_true]
            have hc20 := (areCap_spec.1 hc).1
            refine loop_flat' ls[k] (fun c => if wantC f u hid c = true then [c] else []) _ (fun j hj => ?_) ?_
            · have j0 : (0 : Int) ≤ (j : Int) := by omega
              have j1 : (j : Int) < ((ls[k]).length : Int) := by omega
              have h2 := take_flat_len (f := fun c : Capture => if wantC f u hid c = true then [c] else []) (m := 1) (xs := ls[k]) (fun x _ => by split <;> simp) (Nat.le_of_lt hj)
              simp only [ite_if]; simp only [lt_d, len_d, cond_dec, j0, j1, if_true, rd_at ls[k] j hj, next_id hj (by omega), impl_InRange_is, slices_Contains_Address_is (l := hid) (by omega), bind_some', not_d]
              unfold wantC inT
              by_cases c1 : f ≤ ((ls[k])[j]).2.1 ∧ ((ls[k])[j]).2.1 ≤ u
              · by_cases c2 : ((ls[k])[j]).1 ∈ hid
                · simp [c1, c2]
                · simp only [c1, c2, and_self, decide_true, decide_false, Bool.not_false, Bool.and_true, if_true, not_false_eq_true]
                  rw [if_pos (fitsN (by have e := h2; unfold wantC inT at e; simp only [List.length_cons, List.length_nil]; omega) (by omega))]; rfl
              · simp [c1]
            · have e : (ls[k]).flatMap (fun c => if wantC f u hid c = true then [c] else []) = (ls[k]).filter (wantC f u hid) := by
                generalize ls[k] = l
                induction l with
                | nil => rfl
                | cons c l ih => rw [List.flatMap_cons, ih, List.filter_cons]; split <;> rfl
              rw [e]
              have hfl := List.length_filter_le (wantC f u hid) ls[k]
              simp only [lt_d, len_d, cond_dec, Int.lt_irrefl, decide_false, Bool.false_eq_true, if_false]
              rw [impl_AddCaptures_is (a := acc) (b := (ls[k]).filter (wantC f u hid)) ⟨by omega, hI2⟩ ⟨by omega, fun c hc => hlk.2 c ((List.mem_filter.1 hc).1)⟩, bind_some']
              unfold mk1
              by_cases hm : areCapturesP (((ls[k]).filter (wantC f u hid)).foldl addD acc) = true
              · rw [if_pos hm, if_pos hm]; rfl
              · rw [if_neg hm, if_neg hm]; rfl
          · simp only [hc]; rfl
        · unfold bodyI at ha'
          split at ha'
          · split at ha'
            · rename_i q1 q2
              simp only [Sum.inl.injEq] at ha'
              subst ha'
              exact ⟨q2, mk1_ok hI2 hlk.2⟩
            · cases ha'
          · cases ha'
      · simp only [lt_d, len_d, cond_dec]; rw [if_neg (by omega)]; rfl
    · rw [if_neg (by simpa using h1), if_pos (by simpa using h2), if_neg fun h => h2 h.2]; rfl
  · rw [if_pos (by simpa using h1), if_neg fun h => h1 h.1]; rfl
theorem spec_MakeEdition_is {ls : List (List Capture)} {f u : Int} {hid : List Address} (hls : ok ls) (hh : ok hid) : spec_MakeEdition ls f u hid = some (makeP ls f u hid) := by
  have hl := hls.1; have hhl := hh.1
  unfold spec_MakeEdition makeP
  rw [spec_l1In_is, bind_some', not_d, cond_dec, spec_l1In_is, bind_some', not_d, cond_dec]
  by_cases h1 : 0 ≤ f ∧ f ≤ 2000
  · by_cases h2 : f ≤ u ∧ u ≤ 2000
    · rw [if_neg (by simpa using h1), if_neg (by simpa using h2), if_pos ⟨h1, h2.1, h2.2⟩, nite_pos (fitsN (by simpa using Nat.le_trans hhl (by omega)) (by omega))]
      refine loop_eachI ls (fun k (acc : List Capture) => ((k : Int), (([], 0, 0, []) : Edition), ((acc, f, u, hid) : Edition))) (bodyS f u hid) (finS f u hid) (fun k acc => acc.length ≤ 20 * k ∧ ∀ c ∈ acc, ok c) (fun k hk acc hI => ?_) (fun acc hI => ?_) [] ⟨by simp, fun _ h => (by cases h)⟩
      · have h0 : (0 : Int) ≤ (k : Int) := by omega
        have h3 : (k : Int) < (ls.length : Int) := by omega
        have hlk := hls.at hk
        obtain ⟨hI1, hI2⟩ := hI
        refine ⟨?_, fun a' ha' => ?_⟩
        · simp only [ite_if]; simp only [lt_d, len_d, cond_dec, h0, h3, if_true, rd_at ls k hk, next_id hk (by omega), spec_AreCaptures_is hlk, bind_some', cond_not, cond_if, spec_l23Without_is hlk hh]
          unfold bodyS
          by_cases hc : areCapturesP ls[k] = true
          · simp only [hc, if_true]
            have hc20 := (areCap_spec.1 hc).1
            rw [outside_filter]
            have hfl := List.length_filter_le (fun c : Capture => !decide (c.1 ∈ hid)) ls[k]
            have hok : ∀ c ∈ (ls[k]).filter (fun c : Capture => !decide (c.1 ∈ hid)), ok c := fun c hc => hlk.2 c ((List.mem_filter.1 hc).1)
            have hmk : mk1 f u hid acc ls[k] = ((ls[k]).filter (fun c : Capture => !decide (c.1 ∈ hid))).foldl (fun acc c => if inT f u c = true then addD acc c else acc) acc := by
              unfold mk1
              rw [← List.foldl_filter, List.filter_filter]
              rfl
            rw [hmk]
            generalize (ls[k]).filter (fun c : Capture => !decide (c.1 ∈ hid)) = l at hfl hok ⊢
            have hpre : ∀ j, ((l.take j).foldl (fun acc c => if inT f u c = true then addD acc c else acc) acc).length ≤ acc.length + l.length ∧ ∀ c ∈ (l.take j).foldl (fun acc c => if inT f u c = true then addD acc c else acc) acc, ok c := fun j => by
              rw [← List.foldl_filter]
              have q1 := adds_len ((l.take j).filter (inT f u)) acc
              have q2 := List.length_filter_le (inT f u) (l.take j)
              have q3 := List.length_take_le' j l
              refine ⟨by omega, fun c hc => ?_⟩
              rcases adds_mem.1 hc with hc | hc
              · exact hI2 c hc
              · exact hok c (List.mem_of_mem_take ((List.mem_filter.1 hc).1))
            refine loop_upto l.length (fun j (acc : List Capture) => ((j : Int), ((acc, f, u, hid) : Edition))) (fun j => (l.take j).foldl (fun acc c => if inT f u c = true then addD acc c else acc) acc) _ (fun j hj => ?_) ?_
            · have j0 : (0 : Int) ≤ (j : Int) := by omega
              have j1 : (j : Int) < (l.length : Int) := by omega
              obtain ⟨p1, p2⟩ := hpre j
              rw [List.take_succ_eq_append_getElem hj, List.foldl_append, List.foldl_cons, List.foldl_nil]
              generalize (l.take j).foldl (fun acc c => if inT f u c = true then addD acc c else acc) acc = ac at p1 p2 ⊢
              simp only [ite_if]; simp only [lt_d, len_d, cond_dec, j0, j1, if_true, rd_at l j hj, next_id hj (by omega), spec_l1In_is, spec_l20In_long (l := ac) (by omega) p2, bind_some', not_d]
              unfold inT addD
              by_cases c1 : f ≤ (l[j]).2.1 ∧ (l[j]).2.1 ≤ u
              · by_cases c2 : l[j] ∈ ac
                · simp [c1, c2]
                · simp only [c1, c2, and_self, decide_true, if_true, if_false, not_false_eq_true]
                  rw [if_pos (fitsN (by simp; omega) (by omega))]; rfl
              · simp [c1]
            · simp only [lt_d, len_d, cond_dec, List.take_length, Int.lt_irrefl, decide_false, Bool.false_eq_true, if_false]; rfl
          · simp only [hc]; rfl
        · unfold bodyS at ha'
          split at ha'
          · rename_i q1
            simp only [Sum.inl.injEq] at ha'
            subst ha'
            have := mk1_len f u hid acc ls[k]
            have := (areCap_spec.1 q1).1
            exact ⟨by omega, mk1_ok hI2 hlk.2⟩
          · cases ha'
      · obtain ⟨hI1, hI2⟩ := hI
        simp only [lt_d, len_d, cond_dec]; rw [if_neg (by omega)]
        unfold finS
        rw [spec_AreCaptures_long (by omega) hI2, bind_some', cond_not, cond_if]
        split <;> rfl
    · rw [if_neg (by simpa using h1), if_pos (by simpa using h2), if_neg fun h => h2 h.2]; rfl
  · rw [if_pos (by simpa using h1), if_neg fun h => h1 h.1]; rfl
end D
end Go.Sh
set_option linter.unusedVariables false
set_option linter.unusedSimpArgs false
set_option synthInstance.maxSize 100000
set_option maxHeartbeats 4000000
namespace Go.Sh
open Go Data
namespace D
theorem goS_spec (f u : Int) (hid : List Address) : ∀ (ls : List (List Capture)) (acc : List Capture), goE (bodyS f u hid) (finS f u hid) ls acc = zeroR ∨
    ∃ acc', goE (bodyS f u hid) (finS f u hid) ls acc = (acc', f, u, hid, true) ∧ areCapturesP acc' = true ∧ (∀ x, x ∈ acc' ↔ x ∈ acc ∨ ∃ l ∈ ls, x ∈ l ∧ wantC f u hid x = true) ∧ (acc.Nodup → acc'.Nodup)
  | [], acc => by
    simp only [goE, finS]
    by_cases h : areCapturesP acc = true
    · rw [if_pos h]; exact .inr ⟨acc, rfl, h, fun x => by simp, id⟩
    · rw [if_neg h]; exact .inl rfl
  | l :: ls, acc => by
    simp only [goE, bodyS]
    by_cases h : areCapturesP l = true
    · rw [if_pos h]
      rcases goS_spec f u hid ls (mk1 f u hid acc l) with h1 | ⟨acc', h1, h2, h3, h4⟩
      · exact .inl h1
      · refine .inr ⟨acc', h1, h2, fun x => ?_, fun hn => h4 (adds_nodup _ hn)⟩
        rw [h3, mk1_mem, or_assoc]
        refine or_congr_right ⟨fun hx => ?_, fun hx => ?_⟩
        · rcases hx with hx | ⟨m, hm, hx⟩
          · exact ⟨l, by simp, hx⟩
          · exact ⟨m, by simp [hm], hx⟩
        · obtain ⟨m, hm, hx⟩ := hx
          rcases List.mem_cons.1 hm with rfl | hm
          · exact .inl hx
          · exact .inr ⟨m, hm, hx⟩
    · rw [if_neg h]; exact .inl rfl
structure MadeQ (ls : List (List Capture)) (f u : Int) (hid : List Address) (r : EdR) : Prop where
  ed : ok ((r.1, r.2.1, r.2.2.1, r.2.2.2.1) : Edition)
  made : r.2.2.2.2 = true → (0 ≤ f ∧ f ≤ u ∧ u ≤ 2000) ∧ (r.2.1 = f ∧ r.2.2.1 = u ∧ r.2.2.2.1 = hid) ∧ areCapturesP r.1 = true ∧ (∀ x, x ∈ r.1 ↔ ∃ l ∈ ls, x ∈ l ∧ wantC f u hid x = true) ∧ r.1.Nodup
theorem make_spec {ls : List (List Capture)} {f u : Int} {hid : List Address} (hls : ok ls) (hh : ok hid) : MadeQ ls f u hid (makeP ls f u hid) := by
  have z : ok (0 : Int) := ok_num (by omega) (by omega)
  have zero : MadeQ ls f u hid zeroR := ⟨⟨⟨by simp [zeroR], fun _ h => (by cases h)⟩, z, z, ⟨by simp [zeroR], fun _ h => (by cases h)⟩⟩, fun h => (by cases h)⟩
  unfold makeP
  split
  · rename_i h
    rcases goS_spec f u hid ls [] with h1 | ⟨acc', h1, h2, h3, h4⟩
    · rw [h1]; exact zero
    · rw [h1]
      have h3' : ∀ x, x ∈ acc' ↔ ∃ l ∈ ls, x ∈ l ∧ wantC f u hid x = true := fun x => by rw [h3]; simp
      have hc := areCap_spec.1 h2
      refine ⟨⟨⟨by simp only; omega, fun c hc => ?_⟩, ok_num (by simp only; omega) (by simp only; omega), ok_num (by simp only; omega) (by simp only; omega), hh⟩, fun _ => ⟨⟨h.1.1, h.2.1, h.2.2⟩, ⟨rfl, rfl, rfl⟩, h2, h3', h4 List.nodup_nil⟩⟩
      obtain ⟨l, hl, hcl, _⟩ := (h3' c).1 hc
      exact (hls.2 l hl).2 c hcl
  · exact zero

/-! ## Marks of lists of captures; of editions -/
def wCaptureSS (l : List Capture) : Int := sumW wCaptureS l
def mkCaptureSS (k : Int) (l : List Capture) : List Capture := markW mkCaptureS wCaptureS l k
theorem wCaptureSS_pos (c : List Capture) : 0 ≤ wCaptureSS c := sumW_nonneg wCaptureS_pos c
theorem wCaptureSS_le {x : List (List Capture)} (h : ok x) : sumW wCaptureSS x ≤ (2000000 * 1048576) * 1048576 := by
  have h1 := sumW_le (we := wCaptureSS) (m := 2000000 * 1048576) x fun c hc => wCaptureS_le (h.2 c hc)
  have := h.1
  omega
theorem laws_markCaptureSS_is {x : List (List Capture)} {k : Int} (h0 : 0 ≤ k) (hk : k ≤ 2500000000000000000) (h : ok x) : laws_markCaptureSS x k = some (k + sumW wCaptureSS x, markW mkCaptureSS wCaptureSS x k) := by
  have hs := wCaptureSS_le h
  refine mark_loopW (we := wCaptureSS) (B := 6000000000000000000) (mk := mkCaptureSS) (P := ok) wCaptureSS_pos (fun k i ys hi h0 h1 hl hp => ?_) (fun k ys => ?_) h0 (by omega) h.1 h.2
  · have i0 : (0 : Int) ≤ (i : Int) := by omega
    have i1 : (i : Int) < (ys.length : Int) := by omega
    have p := wCaptureSS_pos ys[i]
    have m0 := laws_markCaptureS_is (x := ys[i]) (k := k) (by omega) (by omega) hp
    simp only [ite_if, let_eq, lt_d, len_d, cond_dec, i0, i1, if_true, rd_at ys i hi, m0, bind_some', next_id hi (by omega)]
    rw [set_at]
    rfl
  · simp only [lt_d, len_d, cond_dec]; rw [if_neg (by omega)]
theorem laws_markEdition_is {c : List Capture} {f u : Int} {h : List Address} (hc : ok c) (hh : ok h) : laws_markEdition c f u h 1 = some (1 + sumW wCaptureS c + 3 * h.length, markW mkCaptureS wCaptureS c 1, markL mkAddressS 3 h (1 + sumW wCaptureS c)) := by
  have hw := wCaptureS_le hc; have hp := sumW_nonneg wCaptureS_pos c
  unfold laws_markEdition
  rw [laws_markCaptureS_is (by omega) (by omega) hc, bind_some', laws_markAddressS_is (by omega) (by omega) hh, bind_some']
theorem laws_heldEdition_is {c : List Capture} {f u : Int} {h : List Address} (hc : ok c) (hh : ok h) : laws_heldEdition (markW mkCaptureS wCaptureS c 1, f, u, markL mkAddressS 3 h (1 + sumW wCaptureS c)) 1 = some (1 + sumW wCaptureS c + 3 * h.length) := by
  have hw := wCaptureS_le hc; have hp := sumW_nonneg wCaptureS_pos c
  unfold laws_heldEdition
  simp only [laws_heldCaptureS_is (k0 := 1) (by omega) (by omega) hc, bind_some', lt_d, cond_dec]
  rw [if_neg (by omega), laws_heldAddressS_is (by omega) (by omega) hh, bind_some', if_neg (by omega)]
theorem FnExactMakeEdition_true (x : List (List Capture)) (y z : Int) (t : List Address) (hx : bd x) (_ : bd y) (_ : bd z) (ht : bd t) : laws_FnExactMakeEdition x y z t = some true := by
  unfold laws_FnExactMakeEdition
  obtain ⟨s, e, hs⟩ := laws_szCaptureSS_is x 1048576 hx (by omega) (by omega)
  rw [e, bind_some', lt_d, cond_dec]
  rcases hs with hs | ⟨hk, h0, h1⟩
  · rw [if_pos hs]
  rw [if_neg (by omega)]
  obtain ⟨s2, e2, hs2⟩ := laws_szAddressS_is t s ht h0 h1
  rw [e2, bind_some', lt_d, cond_dec]
  rcases hs2 with hs2 | ⟨hk2, h2, h3⟩
  · rw [if_pos hs2]
  rw [if_neg (by omega)]
  have hq := make_spec (f := y) (u := z) hk hk2
  generalize hr : makeP x y z t = r at hq
  have hi : impl_MakeEdition x y z t = some r := by rw [impl_MakeEdition_is hk hk2, hr]
  have hsp : spec_MakeEdition x y z t = some r := by rw [spec_MakeEdition_is hk hk2, hr]
  have w1 := wCaptureSS_le hk; have p1 := sumW_nonneg wCaptureSS_pos x; have htl := hk2.1
  have w2 := wCaptureS_le hq.ed.1; have p2 := sumW_nonneg wCaptureS_pos r.1; have hhl := hq.ed.2.2.2.1
  simp only at w2 hhl
  simp only [laws_toCaptureSS_is _ hk, laws_toAddressS_is _ hk2, bind_some', hi, hsp, laws_eqEdition_is _ _ hq.ed, laws_eqCaptureSS_is _ _ hk, laws_eqAddressS_is _ _ hk2, laws_markCaptureSS_is (k := 1) (by omega) (by omega) hk, laws_markAddressS_is (k := 1 + sumW wCaptureSS x) (by omega) (by omega) hk2,
    laws_markEdition_is hq.ed.1 hq.ed.2.2.2, laws_heldEdition_is hq.ed.1 hq.ed.2.2.2, ne_d, neB_d, not_d, lt_d, cond_dec]
  have e1 : ¬ (1 + sumW wCaptureSS x + 3 * (t.length : Int) < 0) := by omega
  have e2 : ¬ (1 + sumW wCaptureS r.1 + 3 * (r.2.2.2.1.length : Int) < 0) := by omega
  simp only [e1, e2, decide_true, not_true_eq_false, if_false]
end D
end Go.Sh
