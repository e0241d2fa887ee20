/- The native forms of the functions that FnExactLookUp reaches, and their pure laws: FnExactLookUp is true for every input of bounded parts. No condition beyond the bounds that every input keeps. -/
import Derived.Test.YthmpjemfgejccaaSh8
set_option linter.unusedVariables false
set_option maxRecDepth 100000
set_option maxHeartbeats 4000000
namespace Go.Sh
open Go
namespace N
def nostr : ByteArray := ByteArray.empty
def lit (l : List UInt8) : ByteArray := ⟨l.toArray⟩
def let_ {α R : Type} (x : α) (f : α → Option R) : Option R := f x
end N
namespace D
abbrev Op : Type := Int × Int × Int × Int
abbrev Address : Type := Int × Int × Int
abbrev Entry : Type := Int × Address × Int
abbrev Resource : Type := Int × (List Int) × Address
abbrev Capture : Type := Address × Int × Resource
abbrev Container : Type := (List Op) × (List Entry) × (List Capture) × Int
abbrev Found : Type := Address × Int × Int × Int
abbrev Disk : Type := (List Container) × (List Found) × (List Container)
noncomputable def laws_szIntS (x0 : List Int) (x1 : Int) : Option (Int) :=
  N.cond (N.lt (N.sub .i64 x1 (N.len x0)) 0)
    (some (-1))
    (some (N.sub .i64 x1 (N.len x0)))

noncomputable def laws_toIntS (x0 : List Int) : Option (List Int) :=
  N.ite (0 ≤ N.len x0)
    (
      N.ite (N.room (N.len x0) 8)
        (
          loopF (fun (s1 : Int × List Int) =>
              N.cond (N.lt s1.1 (N.len x0))
                (
                  N.ite (0 ≤ s1.1)
                    (
                      N.ite (s1.1 < N.len x0)
                        (
                          N.ite (0 ≤ s1.1)
                            (
                              N.ite (s1.1 < N.len s1.2)
                                (some (.inl (N.add .i64 s1.1 1, N.set s1.2 s1.1 (N.rd x0 s1.1 0))))
                                none)
                            none)
                        none)
                    none)
                (some (.inr s1.2)))
            (0, N.rep (N.len x0) 0))
        none)
    none

noncomputable def laws_eqIntS (x0 : List Int) (x1 : List Int) : Option (Bool) :=
  N.cond (N.ne (N.len x0) (N.len x1))
    (some false)
    (
      loopF (fun (s1 : Int) =>
          N.cond (N.lt s1 (N.len x0))
            (
              N.ite (0 ≤ s1)
                (
                  N.ite (s1 < N.len x0)
                    (
                      N.ite (0 ≤ s1)
                        (
                          N.ite (s1 < N.len x1)
                            (
                              N.cond (N.ne (N.rd x0 s1 0) (N.rd x1 s1 0))
                                (some (.inr false))
                                (some (.inl (N.add .i64 s1 1))))
                            none)
                        none)
                    none)
                none)
            (some (.inr true)))
        0)

noncomputable def laws_markIntS (x0 : List Int) (x1 : Int) : Option (Int × (List Int)) :=
  loopF (fun (s1 : Int × Int × List Int) =>
      N.cond (N.lt s1.2.1 (N.len s1.2.2))
        (
          N.ite (0 ≤ s1.2.1)
            (
              N.ite (s1.2.1 < N.len s1.2.2)
                (some (.inl (N.add .i64 s1.1 1, N.add .i64 s1.2.1 1, N.set s1.2.2 s1.2.1 s1.1)))
                none)
            none)
        (some (.inr (s1.1, s1.2.2))))
    (x1, 0, x0)

noncomputable def laws_szOpS (x0 : List Op) (x1 : Int) : Option (Int) :=
  N.cond (N.lt (N.sub .i64 x1 (N.len x0)) 0)
    (some (-1))
    (some (N.sub .i64 x1 (N.len x0)))

noncomputable def laws_toOp (x0 : Op) : Option (Op) :=
  some x0

noncomputable def laws_toOpS (x0 : List Op) : Option (List Op) :=
  N.ite (0 ≤ N.len x0)
    (
      N.ite (N.room (N.len x0) 32)
        (
          loopF (fun (s1 : Int × List Op) =>
              N.cond (N.lt s1.1 (N.len x0))
                (
                  N.ite (0 ≤ s1.1)
                    (
                      N.ite (s1.1 < N.len x0)
                        (
                          N.bind (laws_toOp (N.rd x0 s1.1 (0, 0, 0, 0))) fun r1 =>
                            N.ite (0 ≤ s1.1)
                              (
                                N.ite (s1.1 < N.len s1.2)
                                  (some (.inl (N.add .i64 s1.1 1, N.set s1.2 s1.1 r1)))
                                  none)
                              none)
                        none)
                    none)
                (some (.inr s1.2)))
            (0, N.rep (N.len x0) (0, 0, 0, 0)))
        none)
    none

noncomputable def laws_eqAddress (x0 : Address) (x1 : Address) : Option (Bool) :=
  N.cond (N.ne x0.1 x1.1)
    (some false)
    (
      N.cond (N.ne x0.2.1 x1.2.1)
        (some false)
        (
          N.cond (N.ne x0.2.2 x1.2.2)
            (some false)
            (some true)))

noncomputable def laws_eqEntry (x0 : Entry) (x1 : Entry) : Option (Bool) :=
  N.cond (N.ne x0.1 x1.1)
    (some false)
    (
      N.bind (laws_eqAddress x0.2.1 x1.2.1) fun r1 =>
        N.cond (N.not r1)
          (some false)
          (
            N.cond (N.ne x0.2.2 x1.2.2)
              (some false)
              (some true)))

noncomputable def laws_eqEntryS (x0 : List Entry) (x1 : List Entry) : Option (Bool) :=
  N.cond (N.ne (N.len x0) (N.len x1))
    (some false)
    (
      loopF (fun (s1 : Int) =>
          N.cond (N.lt s1 (N.len x0))
            (
              N.ite (0 ≤ s1)
                (
                  N.ite (s1 < N.len x0)
                    (
                      N.ite (0 ≤ s1)
                        (
                          N.ite (s1 < N.len x1)
                            (
                              N.bind (laws_eqEntry (N.rd x0 s1 (0, (0, 0, 0), 0)) (N.rd x1 s1 (0, (0, 0, 0), 0))) fun r1 =>
                                N.cond (N.not r1)
                                  (some (.inr false))
                                  (some (.inl (N.add .i64 s1 1))))
                            none)
                        none)
                    none)
                none)
            (some (.inr true)))
        0)

noncomputable def laws_eqOp (x0 : Op) (x1 : Op) : Option (Bool) :=
  N.cond (N.ne x0.1 x1.1)
    (some false)
    (
      N.cond (N.ne x0.2.1 x1.2.1)
        (some false)
        (
          N.cond (N.ne x0.2.2.1 x1.2.2.1)
            (some false)
            (
              N.cond (N.ne x0.2.2.2 x1.2.2.2)
                (some false)
                (some true))))

noncomputable def laws_eqOpS (x0 : List Op) (x1 : List Op) : Option (Bool) :=
  N.cond (N.ne (N.len x0) (N.len x1))
    (some false)
    (
      loopF (fun (s1 : Int) =>
          N.cond (N.lt s1 (N.len x0))
            (
              N.ite (0 ≤ s1)
                (
                  N.ite (s1 < N.len x0)
                    (
                      N.ite (0 ≤ s1)
                        (
                          N.ite (s1 < N.len x1)
                            (
                              N.bind (laws_eqOp (N.rd x0 s1 (0, 0, 0, 0)) (N.rd x1 s1 (0, 0, 0, 0))) fun r1 =>
                                N.cond (N.not r1)
                                  (some (.inr false))
                                  (some (.inl (N.add .i64 s1 1))))
                            none)
                        none)
                    none)
                none)
            (some (.inr true)))
        0)

noncomputable def laws_markOpS (x0 : List Op) (x1 : Int) : Option (Int × (List Op)) :=
  loopF (fun (s1 : Int × Int × List Op) =>
      N.cond (N.lt s1.2.1 (N.len s1.2.2))
        (
          N.ite (0 ≤ s1.2.1)
            (
              N.ite (s1.2.1 < N.len s1.2.2)
                (
                  N.let_ (N.set s1.2.2 s1.2.1 (s1.1, (N.rd s1.2.2 s1.2.1 (0, 0, 0, 0)).2.1, (N.rd s1.2.2 s1.2.1 (0, 0, 0, 0)).2.2.1, (N.rd s1.2.2 s1.2.1 (0, 0, 0, 0)).2.2.2)) fun v1 =>
                    N.ite (0 ≤ s1.2.1)
                      (
                        N.ite (s1.2.1 < N.len v1)
                          (
                            N.let_ (N.set v1 s1.2.1 ((N.rd v1 s1.2.1 (0, 0, 0, 0)).1, N.add .i64 s1.1 1, (N.rd v1 s1.2.1 (0, 0, 0, 0)).2.2.1, (N.rd v1 s1.2.1 (0, 0, 0, 0)).2.2.2)) fun v2 =>
                              N.ite (0 ≤ s1.2.1)
                                (
                                  N.ite (s1.2.1 < N.len v2)
                                    (
                                      N.let_ (N.set v2 s1.2.1 ((N.rd v2 s1.2.1 (0, 0, 0, 0)).1, (N.rd v2 s1.2.1 (0, 0, 0, 0)).2.1, N.add .i64 (N.add .i64 s1.1 1) 1, (N.rd v2 s1.2.1 (0, 0, 0, 0)).2.2.2)) fun v3 =>
                                        N.ite (0 ≤ s1.2.1)
                                          (
                                            N.ite (s1.2.1 < N.len v3)
                                              (
                                                N.let_ (N.set v3 s1.2.1 ((N.rd v3 s1.2.1 (0, 0, 0, 0)).1, (N.rd v3 s1.2.1 (0, 0, 0, 0)).2.1, (N.rd v3 s1.2.1 (0, 0, 0, 0)).2.2.1, N.add .i64 (N.add .i64 (N.add .i64 s1.1 1) 1) 1)) fun v4 =>
                                                  some (.inl (N.add .i64 (N.add .i64 (N.add .i64 (N.add .i64 s1.1 1) 1) 1) 1, N.add .i64 s1.2.1 1, v4)))
                                              none)
                                          none)
                                    none)
                                none)
                          none)
                      none)
                none)
            none)
        (some (.inr (s1.1, s1.2.2))))
    (x1, 0, x0)

noncomputable def laws_markEntryS (x0 : List Entry) (x1 : Int) : Option (Int × (List Entry)) :=
  loopF (fun (s1 : Int × Int × List Entry) =>
      N.cond (N.lt s1.2.1 (N.len s1.2.2))
        (
          N.ite (0 ≤ s1.2.1)
            (
              N.ite (s1.2.1 < N.len s1.2.2)
                (
                  N.let_ (N.set s1.2.2 s1.2.1 (s1.1, (N.rd s1.2.2 s1.2.1 (0, (0, 0, 0), 0)).2.1, (N.rd s1.2.2 s1.2.1 (0, (0, 0, 0), 0)).2.2)) fun v1 =>
                    N.ite (0 ≤ s1.2.1)
                      (
                        N.ite (s1.2.1 < N.len v1)
                          (
                            N.let_ (N.set v1 s1.2.1 ((N.rd v1 s1.2.1 (0, (0, 0, 0), 0)).1, (N.add .i64 s1.1 1, ((N.rd v1 s1.2.1 (0, (0, 0, 0), 0)).2.1).2.1, ((N.rd v1 s1.2.1 (0, (0, 0, 0), 0)).2.1).2.2), (N.rd v1 s1.2.1 (0, (0, 0, 0), 0)).2.2)) fun v2 =>
                              N.ite (0 ≤ s1.2.1)
                                (
                                  N.ite (s1.2.1 < N.len v2)
                                    (
                                      N.let_ (N.set v2 s1.2.1 ((N.rd v2 s1.2.1 (0, (0, 0, 0), 0)).1, (((N.rd v2 s1.2.1 (0, (0, 0, 0), 0)).2.1).1, N.add .i64 (N.add .i64 s1.1 1) 1, ((N.rd v2 s1.2.1 (0, (0, 0, 0), 0)).2.1).2.2), (N.rd v2 s1.2.1 (0, (0, 0, 0), 0)).2.2)) fun v3 =>
                                        N.ite (0 ≤ s1.2.1)
                                          (
                                            N.ite (s1.2.1 < N.len v3)
                                              (
                                                N.let_ (N.set v3 s1.2.1 ((N.rd v3 s1.2.1 (0, (0, 0, 0), 0)).1, (((N.rd v3 s1.2.1 (0, (0, 0, 0), 0)).2.1).1, ((N.rd v3 s1.2.1 (0, (0, 0, 0), 0)).2.1).2.1, N.add .i64 (N.add .i64 (N.add .i64 s1.1 1) 1) 1), (N.rd v3 s1.2.1 (0, (0, 0, 0), 0)).2.2)) fun v4 =>
                                                  N.ite (0 ≤ s1.2.1)
                                                    (
                                                      N.ite (s1.2.1 < N.len v4)
                                                        (
                                                          N.let_ (N.set v4 s1.2.1 ((N.rd v4 s1.2.1 (0, (0, 0, 0), 0)).1, (N.rd v4 s1.2.1 (0, (0, 0, 0), 0)).2.1, N.add .i64 (N.add .i64 (N.add .i64 (N.add .i64 s1.1 1) 1) 1) 1)) fun v5 =>
                                                            some (.inl (N.add .i64 (N.add .i64 (N.add .i64 (N.add .i64 (N.add .i64 s1.1 1) 1) 1) 1) 1, N.add .i64 s1.2.1 1, v5)))
                                                        none)
                                                    none)
                                              none)
                                          none)
                                    none)
                                none)
                          none)
                      none)
                none)
            none)
        (some (.inr (s1.1, s1.2.2))))
    (x1, 0, x0)

noncomputable def laws_szEntryS (x0 : List Entry) (x1 : Int) : Option (Int) :=
  N.cond (N.lt (N.sub .i64 x1 (N.len x0)) 0)
    (some (-1))
    (some (N.sub .i64 x1 (N.len x0)))

noncomputable def laws_toAddress (x0 : Address) : Option (Address) :=
  some x0

noncomputable def laws_toEntry (x0 : Entry) : Option (Entry) :=
  N.bind (laws_toAddress x0.2.1) fun r1 =>
    some (x0.1, r1, x0.2.2)

noncomputable def laws_toEntryS (x0 : List Entry) : Option (List Entry) :=
  N.ite (0 ≤ N.len x0)
    (
      N.ite (N.room (N.len x0) 40)
        (
          loopF (fun (s1 : Int × List Entry) =>
              N.cond (N.lt s1.1 (N.len x0))
                (
                  N.ite (0 ≤ s1.1)
                    (
                      N.ite (s1.1 < N.len x0)
                        (
                          N.bind (laws_toEntry (N.rd x0 s1.1 (0, (0, 0, 0), 0))) fun r1 =>
                            N.ite (0 ≤ s1.1)
                              (
                                N.ite (s1.1 < N.len s1.2)
                                  (some (.inl (N.add .i64 s1.1 1, N.set s1.2 s1.1 r1)))
                                  none)
                              none)
                        none)
                    none)
                (some (.inr s1.2)))
            (0, N.rep (N.len x0) (0, (0, 0, 0), 0)))
        none)
    none

noncomputable def laws_szResource (x0 : Resource) (x1 : Int) : Option (Int) :=
  N.bind (laws_szIntS x0.2.1 x1) fun r1 =>
    N.cond (N.lt r1 0)
      (some (-1))
      (some r1)

noncomputable def laws_szCapture (x0 : Capture) (x1 : Int) : Option (Int) :=
  N.bind (laws_szResource x0.2.2 x1) fun r1 =>
    N.cond (N.lt r1 0)
      (some (-1))
      (some r1)

noncomputable def laws_szCaptureS (x0 : List Capture) (x1 : Int) : Option (Int) :=
  N.cond (N.lt (N.sub .i64 x1 (N.len x0)) 0)
    (some (-1))
    (
      loopF (fun (s1 : Int × Int) =>
          N.cond (N.lt s1.2 (N.len x0))
            (
              N.ite (0 ≤ s1.2)
                (
                  N.ite (s1.2 < N.len x0)
                    (
                      N.bind (laws_szCapture (N.rd x0 s1.2 ((0, 0, 0), 0, (0, [], (0, 0, 0)))) s1.1) fun r1 =>
                        N.cond (N.lt r1 0)
                          (some (.inr (-1)))
                          (some (.inl (r1, N.add .i64 s1.2 1))))
                    none)
                none)
            (some (.inr s1.1)))
        (N.sub .i64 x1 (N.len x0), 0))

noncomputable def laws_toResource (x0 : Resource) : Option (Int × (List Int) × Int × Int × Int) :=
  N.bind (laws_toIntS x0.2.1) fun r1 =>
    N.bind (laws_toAddress x0.2.2) fun r2 =>
      some (x0.1, r1, r2.1, r2.2.1, r2.2.2)

noncomputable def laws_toCapture (x0 : Capture) : Option (Int × Int × Int × Int × Int × (List Int) × Int × Int × Int) :=
  N.bind (laws_toAddress x0.1) fun r1 =>
    N.bind (laws_toResource x0.2.2) fun r2 =>
      some (r1.1, r1.2.1, r1.2.2, x0.2.1, r2.1, r2.2.1, r2.2.2.1, r2.2.2.2.1, r2.2.2.2.2)

noncomputable def laws_toCaptureS (x0 : List Capture) : Option (List Capture) :=
  N.ite (0 ≤ N.len x0)
    (
      N.ite (N.room (N.len x0) 88)
        (
          loopF (fun (s1 : Int × List Capture) =>
              N.cond (N.lt s1.1 (N.len x0))
                (
                  N.ite (0 ≤ s1.1)
                    (
                      N.ite (s1.1 < N.len x0)
                        (
                          N.bind (laws_toCapture (N.rd x0 s1.1 ((0, 0, 0), 0, (0, [], (0, 0, 0))))) fun r1 =>
                            N.ite (0 ≤ s1.1)
                              (
                                N.ite (s1.1 < N.len s1.2)
                                  (some (.inl (N.add .i64 s1.1 1, N.set s1.2 s1.1 ((r1.1, r1.2.1, r1.2.2.1), r1.2.2.2.1, (r1.2.2.2.2.1, r1.2.2.2.2.2.1, (r1.2.2.2.2.2.2.1, r1.2.2.2.2.2.2.2.1, r1.2.2.2.2.2.2.2.2))))))
                                  none)
                              none)
                        none)
                    none)
                (some (.inr s1.2)))
            (0, N.rep (N.len x0) ((0, 0, 0), 0, (0, [], (0, 0, 0)))))
        none)
    none

noncomputable def laws_eqResource (x0 : Resource) (x1 : Resource) : Option (Bool) :=
  N.cond (N.ne x0.1 x1.1)
    (some false)
    (
      N.bind (laws_eqIntS x0.2.1 x1.2.1) fun r1 =>
        N.cond (N.not r1)
          (some false)
          (
            N.bind (laws_eqAddress x0.2.2 x1.2.2) fun r2 =>
              N.cond (N.not r2)
                (some false)
                (some true)))

noncomputable def laws_eqCapture (x0 : Capture) (x1 : Capture) : Option (Bool) :=
  N.bind (laws_eqAddress x0.1 x1.1) fun r1 =>
    N.cond (N.not r1)
      (some false)
      (
        N.cond (N.ne x0.2.1 x1.2.1)
          (some false)
          (
            N.bind (laws_eqResource x0.2.2 x1.2.2) fun r2 =>
              N.cond (N.not r2)
                (some false)
                (some true)))

noncomputable def laws_eqCaptureS (x0 : List Capture) (x1 : List Capture) : Option (Bool) :=
  N.cond (N.ne (N.len x0) (N.len x1))
    (some false)
    (
      loopF (fun (s1 : Int) =>
          N.cond (N.lt s1 (N.len x0))
            (
              N.ite (0 ≤ s1)
                (
                  N.ite (s1 < N.len x0)
                    (
                      N.ite (0 ≤ s1)
                        (
                          N.ite (s1 < N.len x1)
                            (
                              N.bind (laws_eqCapture (N.rd x0 s1 ((0, 0, 0), 0, (0, [], (0, 0, 0)))) (N.rd x1 s1 ((0, 0, 0), 0, (0, [], (0, 0, 0))))) fun r1 =>
                                N.cond (N.not r1)
                                  (some (.inr false))
                                  (some (.inl (N.add .i64 s1 1))))
                            none)
                        none)
                    none)
                none)
            (some (.inr true)))
        0)

noncomputable def laws_markCaptureS (x0 : List Capture) (x1 : Int) : Option (Int × (List Capture)) :=
  loopF (fun (s1 : Int × Int × List Capture) =>
      N.cond (N.lt s1.2.1 (N.len s1.2.2))
        (
          N.ite (0 ≤ s1.2.1)
            (
              N.ite (s1.2.1 < N.len s1.2.2)
                (
                  N.let_ (N.set s1.2.2 s1.2.1 ((s1.1, ((N.rd s1.2.2 s1.2.1 ((0, 0, 0), 0, (0, [], (0, 0, 0)))).1).2.1, ((N.rd s1.2.2 s1.2.1 ((0, 0, 0), 0, (0, [], (0, 0, 0)))).1).2.2), (N.rd s1.2.2 s1.2.1 ((0, 0, 0), 0, (0, [], (0, 0, 0)))).2.1, (N.rd s1.2.2 s1.2.1 ((0, 0, 0), 0, (0, [], (0, 0, 0)))).2.2)) fun v1 =>
                    N.ite (0 ≤ s1.2.1)
                      (
                        N.ite (s1.2.1 < N.len v1)
                          (
                            N.let_ (N.set v1 s1.2.1 ((((N.rd v1 s1.2.1 ((0, 0, 0), 0, (0, [], (0, 0, 0)))).1).1, N.add .i64 s1.1 1, ((N.rd v1 s1.2.1 ((0, 0, 0), 0, (0, [], (0, 0, 0)))).1).2.2), (N.rd v1 s1.2.1 ((0, 0, 0), 0, (0, [], (0, 0, 0)))).2.1, (N.rd v1 s1.2.1 ((0, 0, 0), 0, (0, [], (0, 0, 0)))).2.2)) fun v2 =>
                              N.ite (0 ≤ s1.2.1)
                                (
                                  N.ite (s1.2.1 < N.len v2)
                                    (
                                      N.let_ (N.set v2 s1.2.1 ((((N.rd v2 s1.2.1 ((0, 0, 0), 0, (0, [], (0, 0, 0)))).1).1, ((N.rd v2 s1.2.1 ((0, 0, 0), 0, (0, [], (0, 0, 0)))).1).2.1, N.add .i64 (N.add .i64 s1.1 1) 1), (N.rd v2 s1.2.1 ((0, 0, 0), 0, (0, [], (0, 0, 0)))).2.1, (N.rd v2 s1.2.1 ((0, 0, 0), 0, (0, [], (0, 0, 0)))).2.2)) fun v3 =>
                                        N.ite (0 ≤ s1.2.1)
                                          (
                                            N.ite (s1.2.1 < N.len v3)
                                              (
                                                N.let_ (N.set v3 s1.2.1 ((N.rd v3 s1.2.1 ((0, 0, 0), 0, (0, [], (0, 0, 0)))).1, N.add .i64 (N.add .i64 (N.add .i64 s1.1 1) 1) 1, (N.rd v3 s1.2.1 ((0, 0, 0), 0, (0, [], (0, 0, 0)))).2.2)) fun v4 =>
                                                  N.ite (0 ≤ s1.2.1)
                                                    (
                                                      N.ite (s1.2.1 < N.len v4)
                                                        (
                                                          N.let_ (N.set v4 s1.2.1 ((N.rd v4 s1.2.1 ((0, 0, 0), 0, (0, [], (0, 0, 0)))).1, (N.rd v4 s1.2.1 ((0, 0, 0), 0, (0, [], (0, 0, 0)))).2.1, (N.add .i64 (N.add .i64 (N.add .i64 (N.add .i64 s1.1 1) 1) 1) 1, ((N.rd v4 s1.2.1 ((0, 0, 0), 0, (0, [], (0, 0, 0)))).2.2).2.1, ((N.rd v4 s1.2.1 ((0, 0, 0), 0, (0, [], (0, 0, 0)))).2.2).2.2))) fun v5 =>
                                                            N.ite (0 ≤ s1.2.1)
                                                              (
                                                                N.ite (s1.2.1 < N.len v5)
                                                                  (
                                                                    N.bind (laws_markIntS (((N.rd v5 s1.2.1 ((0, 0, 0), 0, (0, [], (0, 0, 0)))).2.2).2.1) (N.add .i64 (N.add .i64 (N.add .i64 (N.add .i64 (N.add .i64 s1.1 1) 1) 1) 1) 1)) fun r1 =>
                                                                      N.let_ (N.set v5 s1.2.1 ((N.rd v5 s1.2.1 ((0, 0, 0), 0, (0, [], (0, 0, 0)))).1, (N.rd v5 s1.2.1 ((0, 0, 0), 0, (0, [], (0, 0, 0)))).2.1, (((N.rd v5 s1.2.1 ((0, 0, 0), 0, (0, [], (0, 0, 0)))).2.2).1, r1.2, ((N.rd v5 s1.2.1 ((0, 0, 0), 0, (0, [], (0, 0, 0)))).2.2).2.2))) fun v6 =>
                                                                        N.ite (0 ≤ s1.2.1)
                                                                          (
                                                                            N.ite (s1.2.1 < N.len v6)
                                                                              (
                                                                                N.let_ (N.set v6 s1.2.1 ((N.rd v6 s1.2.1 ((0, 0, 0), 0, (0, [], (0, 0, 0)))).1, (N.rd v6 s1.2.1 ((0, 0, 0), 0, (0, [], (0, 0, 0)))).2.1, (((N.rd v6 s1.2.1 ((0, 0, 0), 0, (0, [], (0, 0, 0)))).2.2).1, ((N.rd v6 s1.2.1 ((0, 0, 0), 0, (0, [], (0, 0, 0)))).2.2).2.1, (r1.1, (((N.rd v6 s1.2.1 ((0, 0, 0), 0, (0, [], (0, 0, 0)))).2.2).2.2).2.1, (((N.rd v6 s1.2.1 ((0, 0, 0), 0, (0, [], (0, 0, 0)))).2.2).2.2).2.2)))) fun v7 =>
                                                                                  N.ite (0 ≤ s1.2.1)
                                                                                    (
                                                                                      N.ite (s1.2.1 < N.len v7)
                                                                                        (
                                                                                          N.let_ (N.set v7 s1.2.1 ((N.rd v7 s1.2.1 ((0, 0, 0), 0, (0, [], (0, 0, 0)))).1, (N.rd v7 s1.2.1 ((0, 0, 0), 0, (0, [], (0, 0, 0)))).2.1, (((N.rd v7 s1.2.1 ((0, 0, 0), 0, (0, [], (0, 0, 0)))).2.2).1, ((N.rd v7 s1.2.1 ((0, 0, 0), 0, (0, [], (0, 0, 0)))).2.2).2.1, ((((N.rd v7 s1.2.1 ((0, 0, 0), 0, (0, [], (0, 0, 0)))).2.2).2.2).1, N.add .i64 r1.1 1, (((N.rd v7 s1.2.1 ((0, 0, 0), 0, (0, [], (0, 0, 0)))).2.2).2.2).2.2)))) fun v8 =>
                                                                                            N.ite (0 ≤ s1.2.1)
                                                                                              (
                                                                                                N.ite (s1.2.1 < N.len v8)
                                                                                                  (
                                                                                                    N.let_ (N.set v8 s1.2.1 ((N.rd v8 s1.2.1 ((0, 0, 0), 0, (0, [], (0, 0, 0)))).1, (N.rd v8 s1.2.1 ((0, 0, 0), 0, (0, [], (0, 0, 0)))).2.1, (((N.rd v8 s1.2.1 ((0, 0, 0), 0, (0, [], (0, 0, 0)))).2.2).1, ((N.rd v8 s1.2.1 ((0, 0, 0), 0, (0, [], (0, 0, 0)))).2.2).2.1, ((((N.rd v8 s1.2.1 ((0, 0, 0), 0, (0, [], (0, 0, 0)))).2.2).2.2).1, (((N.rd v8 s1.2.1 ((0, 0, 0), 0, (0, [], (0, 0, 0)))).2.2).2.2).2.1, N.add .i64 (N.add .i64 r1.1 1) 1)))) fun v9 =>
                                                                                                      some (.inl (N.add .i64 (N.add .i64 (N.add .i64 r1.1 1) 1) 1, N.add .i64 s1.2.1 1, v9)))
                                                                                                  none)
                                                                                              none)
                                                                                        none)
                                                                                    none)
                                                                              none)
                                                                          none)
                                                                  none)
                                                              none)
                                                        none)
                                                    none)
                                              none)
                                          none)
                                    none)
                                none)
                          none)
                      none)
                none)
            none)
        (some (.inr (s1.1, s1.2.2))))
    (x1, 0, x0)

noncomputable def laws_szContainer (x0 : Container) (x1 : Int) : Option (Int) :=
  N.bind (laws_szOpS x0.1 x1) fun r1 =>
    N.cond (N.lt r1 0)
      (some (-1))
      (
        N.bind (laws_szEntryS x0.2.1 r1) fun r2 =>
          N.cond (N.lt r2 0)
            (some (-1))
            (
              N.bind (laws_szCaptureS x0.2.2.1 r2) fun r3 =>
                N.cond (N.lt r3 0)
                  (some (-1))
                  (some r3)))

noncomputable def laws_szContainerS (x0 : List Container) (x1 : Int) : Option (Int) :=
  N.cond (N.lt (N.sub .i64 x1 (N.len x0)) 0)
    (some (-1))
    (
      loopF (fun (s1 : Int × Int) =>
          N.cond (N.lt s1.2 (N.len x0))
            (
              N.ite (0 ≤ s1.2)
                (
                  N.ite (s1.2 < N.len x0)
                    (
                      N.bind (laws_szContainer (N.rd x0 s1.2 ([], [], [], 0)) s1.1) fun r1 =>
                        N.cond (N.lt r1 0)
                          (some (.inr (-1)))
                          (some (.inl (r1, N.add .i64 s1.2 1))))
                    none)
                none)
            (some (.inr s1.1)))
        (N.sub .i64 x1 (N.len x0), 0))

noncomputable def laws_szFoundS (x0 : List Found) (x1 : Int) : Option (Int) :=
  N.cond (N.lt (N.sub .i64 x1 (N.len x0)) 0)
    (some (-1))
    (some (N.sub .i64 x1 (N.len x0)))

noncomputable def laws_szDisk (x0 : Disk) (x1 : Int) : Option (Int) :=
  N.bind (laws_szContainerS x0.1 x1) fun r1 =>
    N.cond (N.lt r1 0)
      (some (-1))
      (
        N.bind (laws_szFoundS x0.2.1 r1) fun r2 =>
          N.cond (N.lt r2 0)
            (some (-1))
            (
              N.bind (laws_szContainerS x0.2.2 r2) fun r3 =>
                N.cond (N.lt r3 0)
                  (some (-1))
                  (some r3)))

noncomputable def laws_toContainer (x0 : Container) : Option ((List Op) × (List Entry) × (List Capture) × Int) :=
  N.bind (laws_toOpS x0.1) fun r1 =>
    N.bind (laws_toEntryS x0.2.1) fun r2 =>
      N.bind (laws_toCaptureS x0.2.2.1) fun r3 =>
        some (r1, r2, r3, x0.2.2.2)

noncomputable def laws_toContainerS (x0 : List Container) : Option (List Container) :=
  N.ite (0 ≤ N.len x0)
    (
      N.ite (N.room (N.len x0) 80)
        (
          loopF (fun (s1 : Int × List Container) =>
              N.cond (N.lt s1.1 (N.len x0))
                (
                  N.ite (0 ≤ s1.1)
                    (
                      N.ite (s1.1 < N.len x0)
                        (
                          N.bind (laws_toContainer (N.rd x0 s1.1 ([], [], [], 0))) fun r1 =>
                            N.ite (0 ≤ s1.1)
                              (
                                N.ite (s1.1 < N.len s1.2)
                                  (some (.inl (N.add .i64 s1.1 1, N.set s1.2 s1.1 r1)))
                                  none)
                              none)
                        none)
                    none)
                (some (.inr s1.2)))
            (0, N.rep (N.len x0) ([], [], [], 0)))
        none)
    none

noncomputable def laws_toFound (x0 : Found) : Option (Found) :=
  N.bind (laws_toAddress x0.1) fun r1 =>
    some (r1, x0.2.1, x0.2.2.1, x0.2.2.2)

noncomputable def laws_toFoundS (x0 : List Found) : Option (List Found) :=
  N.ite (0 ≤ N.len x0)
    (
      N.ite (N.room (N.len x0) 48)
        (
          loopF (fun (s1 : Int × List Found) =>
              N.cond (N.lt s1.1 (N.len x0))
                (
                  N.ite (0 ≤ s1.1)
                    (
                      N.ite (s1.1 < N.len x0)
                        (
                          N.bind (laws_toFound (N.rd x0 s1.1 ((0, 0, 0), 0, 0, 0))) fun r1 =>
                            N.ite (0 ≤ s1.1)
                              (
                                N.ite (s1.1 < N.len s1.2)
                                  (some (.inl (N.add .i64 s1.1 1, N.set s1.2 s1.1 r1)))
                                  none)
                              none)
                        none)
                    none)
                (some (.inr s1.2)))
            (0, N.rep (N.len x0) ((0, 0, 0), 0, 0, 0)))
        none)
    none

noncomputable def laws_toDisk (x0 : Disk) : Option ((List Container) × (List Found) × (List Container)) :=
  N.bind (laws_toContainerS x0.1) fun r1 =>
    N.bind (laws_toFoundS x0.2.1) fun r2 =>
      N.bind (laws_toContainerS x0.2.2) fun r3 =>
        some (r1, r2, r3)

noncomputable def spec_LookUp (x0 : Disk) (x1 : Address) : Option (List Found) :=
  loopF (fun (s1 : List Found × Int) =>
      N.cond (N.lt s1.2 (N.len x0.2.1))
        (
          N.ite (0 ≤ s1.2)
            (
              N.ite (s1.2 < N.len x0.2.1)
                (
                  N.cond (N.both (N.eq (((N.rd x0.2.1 s1.2 ((0, 0, 0), 0, 0, 0)).1).1) x1.1) (N.both (N.eq (((N.rd x0.2.1 s1.2 ((0, 0, 0), 0, 0, 0)).1).2.1) x1.2.1) (N.eq (((N.rd x0.2.1 s1.2 ((0, 0, 0), 0, 0, 0)).1).2.2) x1.2.2)))
                    (
                      N.ite (0 ≤ s1.2)
                        (
                          N.ite (s1.2 < N.len x0.2.1)
                            (
                              N.ite (N.fits s1.1 [N.rd x0.2.1 s1.2 ((0, 0, 0), 0, 0, 0)] 48)
                                (some (.inl (N.app s1.1 [N.rd x0.2.1 s1.2 ((0, 0, 0), 0, 0, 0)], N.add .i64 s1.2 1)))
                                none)
                            none)
                        none)
                    (some (.inl (s1.1, N.add .i64 s1.2 1))))
                none)
            none)
        (some (.inr s1.1)))
    ([], 0)

noncomputable def impl_LookUp (x0 : Disk) (x1 : Address) : Option (List Found) :=
  loopF (fun (s1 : List Found × Int) =>
      N.cond (N.lt s1.2 (N.len x0.2.1))
        (
          N.ite (0 ≤ s1.2)
            (
              N.ite (s1.2 < N.len x0.2.1)
                (
                  N.cond (N.both (N.eq (((N.rd x0.2.1 s1.2 ((0, 0, 0), 0, 0, 0)).1).1) x1.1) (N.both (N.eq (((N.rd x0.2.1 s1.2 ((0, 0, 0), 0, 0, 0)).1).2.1) x1.2.1) (N.eq (((N.rd x0.2.1 s1.2 ((0, 0, 0), 0, 0, 0)).1).2.2) x1.2.2)))
                    (
                      N.ite (N.fits s1.1 [N.rd x0.2.1 s1.2 ((0, 0, 0), 0, 0, 0)] 48)
                        (some (.inl (N.app s1.1 [N.rd x0.2.1 s1.2 ((0, 0, 0), 0, 0, 0)], N.add .i64 s1.2 1)))
                        none)
                    (some (.inl (s1.1, N.add .i64 s1.2 1))))
                none)
            none)
        (some (.inr s1.1)))
    ([], 0)

noncomputable def laws_eqFound (x0 : Found) (x1 : Found) : Option (Bool) :=
  N.bind (laws_eqAddress x0.1 x1.1) fun r1 =>
    N.cond (N.not r1)
      (some false)
      (
        N.cond (N.ne x0.2.1 x1.2.1)
          (some false)
          (
            N.cond (N.ne x0.2.2.1 x1.2.2.1)
              (some false)
              (
                N.cond (N.ne x0.2.2.2 x1.2.2.2)
                  (some false)
                  (some true))))

noncomputable def laws_eqFoundS (x0 : List Found) (x1 : List Found) : Option (Bool) :=
  N.cond (N.ne (N.len x0) (N.len x1))
    (some false)
    (
      loopF (fun (s1 : Int) =>
          N.cond (N.lt s1 (N.len x0))
            (
              N.ite (0 ≤ s1)
                (
                  N.ite (s1 < N.len x0)
                    (
                      N.ite (0 ≤ s1)
                        (
                          N.ite (s1 < N.len x1)
                            (
                              N.bind (laws_eqFound (N.rd x0 s1 ((0, 0, 0), 0, 0, 0)) (N.rd x1 s1 ((0, 0, 0), 0, 0, 0))) fun r1 =>
                                N.cond (N.not r1)
                                  (some (.inr false))
                                  (some (.inl (N.add .i64 s1 1))))
                            none)
                        none)
                    none)
                none)
            (some (.inr true)))
        0)

noncomputable def laws_eqContainer (x0 : Container) (x1 : Container) : Option (Bool) :=
  N.bind (laws_eqOpS x0.1 x1.1) fun r1 =>
    N.cond (N.not r1)
      (some false)
      (
        N.bind (laws_eqEntryS x0.2.1 x1.2.1) fun r2 =>
          N.cond (N.not r2)
            (some false)
            (
              N.bind (laws_eqCaptureS x0.2.2.1 x1.2.2.1) fun r3 =>
                N.cond (N.not r3)
                  (some false)
                  (
                    N.cond (N.ne x0.2.2.2 x1.2.2.2)
                      (some false)
                      (some true))))

noncomputable def laws_eqContainerS (x0 : List Container) (x1 : List Container) : Option (Bool) :=
  N.cond (N.ne (N.len x0) (N.len x1))
    (some false)
    (
      loopF (fun (s1 : Int) =>
          N.cond (N.lt s1 (N.len x0))
            (
              N.ite (0 ≤ s1)
                (
                  N.ite (s1 < N.len x0)
                    (
                      N.ite (0 ≤ s1)
                        (
                          N.ite (s1 < N.len x1)
                            (
                              N.bind (laws_eqContainer (N.rd x0 s1 ([], [], [], 0)) (N.rd x1 s1 ([], [], [], 0))) fun r1 =>
                                N.cond (N.not r1)
                                  (some (.inr false))
                                  (some (.inl (N.add .i64 s1 1))))
                            none)
                        none)
                    none)
                none)
            (some (.inr true)))
        0)

noncomputable def laws_eqDisk (x0 : Disk) (x1 : Disk) : Option (Bool) :=
  N.bind (laws_eqContainerS x0.1 x1.1) fun r1 =>
    N.cond (N.not r1)
      (some false)
      (
        N.bind (laws_eqFoundS x0.2.1 x1.2.1) fun r2 =>
          N.cond (N.not r2)
            (some false)
            (
              N.bind (laws_eqContainerS x0.2.2 x1.2.2) fun r3 =>
                N.cond (N.not r3)
                  (some false)
                  (some true)))

noncomputable def laws_markContainerS (x0 : List Container) (x1 : Int) : Option (Int × (List Container)) :=
  loopF (fun (s1 : Int × Int × List Container) =>
      N.cond (N.lt s1.2.1 (N.len s1.2.2))
        (
          N.ite (0 ≤ s1.2.1)
            (
              N.ite (s1.2.1 < N.len s1.2.2)
                (
                  N.bind (laws_markOpS ((N.rd s1.2.2 s1.2.1 ([], [], [], 0)).1) s1.1) fun r1 =>
                    N.let_ (N.set s1.2.2 s1.2.1 (r1.2, (N.rd s1.2.2 s1.2.1 ([], [], [], 0)).2.1, (N.rd s1.2.2 s1.2.1 ([], [], [], 0)).2.2.1, (N.rd s1.2.2 s1.2.1 ([], [], [], 0)).2.2.2)) fun v1 =>
                      N.ite (0 ≤ s1.2.1)
                        (
                          N.ite (s1.2.1 < N.len v1)
                            (
                              N.bind (laws_markEntryS ((N.rd v1 s1.2.1 ([], [], [], 0)).2.1) r1.1) fun r2 =>
                                N.let_ (N.set v1 s1.2.1 ((N.rd v1 s1.2.1 ([], [], [], 0)).1, r2.2, (N.rd v1 s1.2.1 ([], [], [], 0)).2.2.1, (N.rd v1 s1.2.1 ([], [], [], 0)).2.2.2)) fun v2 =>
                                  N.ite (0 ≤ s1.2.1)
                                    (
                                      N.ite (s1.2.1 < N.len v2)
                                        (
                                          N.bind (laws_markCaptureS ((N.rd v2 s1.2.1 ([], [], [], 0)).2.2.1) r2.1) fun r3 =>
                                            N.let_ (N.set v2 s1.2.1 ((N.rd v2 s1.2.1 ([], [], [], 0)).1, (N.rd v2 s1.2.1 ([], [], [], 0)).2.1, r3.2, (N.rd v2 s1.2.1 ([], [], [], 0)).2.2.2)) fun v3 =>
                                              N.ite (0 ≤ s1.2.1)
                                                (
                                                  N.ite (s1.2.1 < N.len v3)
                                                    (some (.inl (N.add .i64 r3.1 1, N.add .i64 s1.2.1 1, N.set v3 s1.2.1 ((N.rd v3 s1.2.1 ([], [], [], 0)).1, (N.rd v3 s1.2.1 ([], [], [], 0)).2.1, (N.rd v3 s1.2.1 ([], [], [], 0)).2.2.1, r3.1))))
                                                    none)
                                                none)
                                        none)
                                    none)
                            none)
                        none)
                none)
            none)
        (some (.inr (s1.1, s1.2.2))))
    (x1, 0, x0)

noncomputable def laws_markFoundS (x0 : List Found) (x1 : Int) : Option (Int × (List Found)) :=
  loopF (fun (s1 : Int × Int × List Found) =>
      N.cond (N.lt s1.2.1 (N.len s1.2.2))
        (
          N.ite (0 ≤ s1.2.1)
            (
              N.ite (s1.2.1 < N.len s1.2.2)
                (
                  N.let_ (N.set s1.2.2 s1.2.1 ((s1.1, ((N.rd s1.2.2 s1.2.1 ((0, 0, 0), 0, 0, 0)).1).2.1, ((N.rd s1.2.2 s1.2.1 ((0, 0, 0), 0, 0, 0)).1).2.2), (N.rd s1.2.2 s1.2.1 ((0, 0, 0), 0, 0, 0)).2.1, (N.rd s1.2.2 s1.2.1 ((0, 0, 0), 0, 0, 0)).2.2.1, (N.rd s1.2.2 s1.2.1 ((0, 0, 0), 0, 0, 0)).2.2.2)) fun v1 =>
                    N.ite (0 ≤ s1.2.1)
                      (
                        N.ite (s1.2.1 < N.len v1)
                          (
                            N.let_ (N.set v1 s1.2.1 ((((N.rd v1 s1.2.1 ((0, 0, 0), 0, 0, 0)).1).1, N.add .i64 s1.1 1, ((N.rd v1 s1.2.1 ((0, 0, 0), 0, 0, 0)).1).2.2), (N.rd v1 s1.2.1 ((0, 0, 0), 0, 0, 0)).2.1, (N.rd v1 s1.2.1 ((0, 0, 0), 0, 0, 0)).2.2.1, (N.rd v1 s1.2.1 ((0, 0, 0), 0, 0, 0)).2.2.2)) fun v2 =>
                              N.ite (0 ≤ s1.2.1)
                                (
                                  N.ite (s1.2.1 < N.len v2)
                                    (
                                      N.let_ (N.set v2 s1.2.1 ((((N.rd v2 s1.2.1 ((0, 0, 0), 0, 0, 0)).1).1, ((N.rd v2 s1.2.1 ((0, 0, 0), 0, 0, 0)).1).2.1, N.add .i64 (N.add .i64 s1.1 1) 1), (N.rd v2 s1.2.1 ((0, 0, 0), 0, 0, 0)).2.1, (N.rd v2 s1.2.1 ((0, 0, 0), 0, 0, 0)).2.2.1, (N.rd v2 s1.2.1 ((0, 0, 0), 0, 0, 0)).2.2.2)) fun v3 =>
                                        N.ite (0 ≤ s1.2.1)
                                          (
                                            N.ite (s1.2.1 < N.len v3)
                                              (
                                                N.let_ (N.set v3 s1.2.1 ((N.rd v3 s1.2.1 ((0, 0, 0), 0, 0, 0)).1, N.add .i64 (N.add .i64 (N.add .i64 s1.1 1) 1) 1, (N.rd v3 s1.2.1 ((0, 0, 0), 0, 0, 0)).2.2.1, (N.rd v3 s1.2.1 ((0, 0, 0), 0, 0, 0)).2.2.2)) fun v4 =>
                                                  N.ite (0 ≤ s1.2.1)
                                                    (
                                                      N.ite (s1.2.1 < N.len v4)
                                                        (
                                                          N.let_ (N.set v4 s1.2.1 ((N.rd v4 s1.2.1 ((0, 0, 0), 0, 0, 0)).1, (N.rd v4 s1.2.1 ((0, 0, 0), 0, 0, 0)).2.1, N.add .i64 (N.add .i64 (N.add .i64 (N.add .i64 s1.1 1) 1) 1) 1, (N.rd v4 s1.2.1 ((0, 0, 0), 0, 0, 0)).2.2.2)) fun v5 =>
                                                            N.ite (0 ≤ s1.2.1)
                                                              (
                                                                N.ite (s1.2.1 < N.len v5)
                                                                  (
                                                                    N.let_ (N.set v5 s1.2.1 ((N.rd v5 s1.2.1 ((0, 0, 0), 0, 0, 0)).1, (N.rd v5 s1.2.1 ((0, 0, 0), 0, 0, 0)).2.1, (N.rd v5 s1.2.1 ((0, 0, 0), 0, 0, 0)).2.2.1, N.add .i64 (N.add .i64 (N.add .i64 (N.add .i64 (N.add .i64 s1.1 1) 1) 1) 1) 1)) fun v6 =>
                                                                      some (.inl (N.add .i64 (N.add .i64 (N.add .i64 (N.add .i64 (N.add .i64 (N.add .i64 s1.1 1) 1) 1) 1) 1) 1, N.add .i64 s1.2.1 1, v6)))
                                                                  none)
                                                              none)
                                                        none)
                                                    none)
                                              none)
                                          none)
                                    none)
                                none)
                          none)
                      none)
                none)
            none)
        (some (.inr (s1.1, s1.2.2))))
    (x1, 0, x0)

noncomputable def laws_markDisk (x0 : List Container) (x1 : List Found) (x2 : List Container) (x3 : Int) : Option (Int × (List Container) × (List Found) × (List Container)) :=
  N.bind (laws_markContainerS x0 x3) fun r1 =>
    N.bind (laws_markFoundS x1 r1.1) fun r2 =>
      N.bind (laws_markContainerS x2 r2.1) fun r3 =>
        some (r3.1, r1.2, r2.2, r3.2)

noncomputable def laws_heldFoundS (x0 : List Found) (x1 : Int) : Option (Int) :=
  loopF (fun (s1 : Int × Int) =>
      N.cond (N.lt s1.2 (N.len x0))
        (
          N.ite (0 ≤ s1.2)
            (
              N.ite (s1.2 < N.len x0)
                (
                  N.cond (N.ne (((N.rd x0 s1.2 ((0, 0, 0), 0, 0, 0)).1).1) s1.1)
                    (some (.inr (-1)))
                    (
                      N.ite (0 ≤ s1.2)
                        (
                          N.ite (s1.2 < N.len x0)
                            (
                              N.cond (N.ne (((N.rd x0 s1.2 ((0, 0, 0), 0, 0, 0)).1).2.1) (N.add .i64 s1.1 1))
                                (some (.inr (-1)))
                                (
                                  N.ite (0 ≤ s1.2)
                                    (
                                      N.ite (s1.2 < N.len x0)
                                        (
                                          N.cond (N.ne (((N.rd x0 s1.2 ((0, 0, 0), 0, 0, 0)).1).2.2) (N.add .i64 (N.add .i64 s1.1 1) 1))
                                            (some (.inr (-1)))
                                            (
                                              N.ite (0 ≤ s1.2)
                                                (
                                                  N.ite (s1.2 < N.len x0)
                                                    (
                                                      N.cond (N.ne ((N.rd x0 s1.2 ((0, 0, 0), 0, 0, 0)).2.1) (N.add .i64 (N.add .i64 (N.add .i64 s1.1 1) 1) 1))
                                                        (some (.inr (-1)))
                                                        (
                                                          N.ite (0 ≤ s1.2)
                                                            (
                                                              N.ite (s1.2 < N.len x0)
                                                                (
                                                                  N.cond (N.ne ((N.rd x0 s1.2 ((0, 0, 0), 0, 0, 0)).2.2.1) (N.add .i64 (N.add .i64 (N.add .i64 (N.add .i64 s1.1 1) 1) 1) 1))
                                                                    (some (.inr (-1)))
                                                                    (
                                                                      N.ite (0 ≤ s1.2)
                                                                        (
                                                                          N.ite (s1.2 < N.len x0)
                                                                            (
                                                                              N.cond (N.ne ((N.rd x0 s1.2 ((0, 0, 0), 0, 0, 0)).2.2.2) (N.add .i64 (N.add .i64 (N.add .i64 (N.add .i64 (N.add .i64 s1.1 1) 1) 1) 1) 1))
                                                                                (some (.inr (-1)))
                                                                                (some (.inl (N.add .i64 (N.add .i64 (N.add .i64 (N.add .i64 (N.add .i64 (N.add .i64 s1.1 1) 1) 1) 1) 1) 1, N.add .i64 s1.2 1))))
                                                                            none)
                                                                        none))
                                                                none)
                                                            none))
                                                    none)
                                                none))
                                        none)
                                    none))
                            none)
                        none))
                none)
            none)
        (some (.inr s1.1)))
    (x1, 0)

noncomputable def laws_FnExactLookUp (x0 : Disk) (x1 : Address) : Option (Bool) :=
  N.bind (laws_szDisk x0 1048576) fun r1 =>
    N.cond (N.lt r1 0)
      (some true)
      (
        N.bind (laws_toDisk x0) fun r2 =>
          N.bind (laws_toAddress x1) fun r3 =>
            N.bind (spec_LookUp r2 r3) fun r4 =>
              N.bind (laws_toDisk x0) fun r5 =>
                N.bind (laws_toAddress x1) fun r6 =>
                  N.bind (impl_LookUp r5 r6) fun r7 =>
                    N.bind (laws_eqFoundS r7 r4) fun r8 =>
                      N.cond (N.not r8)
                        (some false)
                        (
                          N.bind (laws_toDisk x0) fun r9 =>
                            N.bind (laws_eqDisk r5 r9) fun r10 =>
                              N.cond (N.not r10)
                                (some false)
                                (
                                  N.bind (laws_markDisk r5.1 r5.2.1 r5.2.2 1) fun r11 =>
                                    N.cond (N.lt r11.1 0)
                                      (some false)
                                      (
                                        N.bind (laws_eqFoundS r7 r4) fun r12 =>
                                          N.cond (N.not r12)
                                            (some false)
                                            (
                                              N.bind (laws_markFoundS r7 1) fun r13 =>
                                                N.bind (laws_heldFoundS r13.2 1) fun r14 =>
                                                  N.cond (N.lt r14 0)
                                                    (some false)
                                                    (
                                                      N.cond (N.ne r14 r13.1)
                                                        (some false)
                                                        (
                                                          N.bind (laws_toDisk x0) fun r15 =>
                                                            N.bind (laws_toAddress x1) fun r16 =>
                                                              N.bind (impl_LookUp r15 r16) fun r17 =>
                                                                N.bind (laws_eqFoundS r17 r4) fun r18 =>
                                                                  N.cond (N.not r18)
                                                                    (some false)
                                                                    (
                                                                      N.bind (laws_heldFoundS r13.2 1) fun r19 =>
                                                                        N.cond (N.lt r19 0)
                                                                          (some false)
                                                                          (
                                                                            N.cond (N.ne r19 r13.1)
                                                                              (some false)
                                                                              (some true))))))))))

end D
end Go.Sh
set_option linter.unusedVariables false
set_option linter.unusedSimpArgs false
namespace Go.Sh
open Go
/-! ## Loops -/
theorem loopN_det {S R : Type} {step : S → Option (S ⊕ R)} : ∀ {n m : Nat} {s : S} {a b : R}, loopN step n s = some a → loopN step m s = some b → a = b
  | 0, _, _, _, _, h, _ => by simp [loopN] at h
  | _ + 1, 0, _, _, _, _, h => by simp [loopN] at h
  | n + 1, m + 1, s, a, b, h1, h2 => by
    simp only [loopN] at h1 h2
    split at h1
    · cases h1
    · rename_i s' hs; rw [hs] at h2; exact loopN_det h1 h2
    · rename_i r hr; rw [hr] at h2; simp at h1 h2; rw [← h1, ← h2]

theorem loopF_of {S R : Type} {step : S → Option (S ⊕ R)} {s : S} {n : Nat} {r : R} (h : loopN step n s = some r) : loopF step s = some r := by
  have hx : ∃ n r, loopN step n s = some r := ⟨n, r, h⟩
  unfold loopF
  rw [dif_pos hx]
  obtain ⟨m, hm⟩ := Classical.choose_spec hx |> fun h => (⟨_, Classical.choose_spec h⟩ : ∃ v, loopN step (Classical.choose hx) s = some v)
  have := Classical.choose_spec (Classical.choose_spec hx)
  rw [loopN_det this h]

theorem loopF_inr {S R : Type} {step : S → Option (S ⊕ R)} {s : S} {r : R} (h : step s = some (.inr r)) : loopF step s = some r :=
  loopF_of (n := 1) (by simp [loopN, h])

theorem loopF_inl {S R : Type} {step : S → Option (S ⊕ R)} {s s' : S} (h : step s = some (.inl s')) : loopF step s = loopF step s' := by
  by_cases hx : ∃ n r, loopN step n s' = some r
  · obtain ⟨n, r, hn⟩ := hx
    rw [loopF_of hn, loopF_of (n := n + 1) (r := r) (by simp [loopN, h, hn])]
  · have hy : ¬ ∃ n r, loopN step n s = some r := by
      rintro ⟨n, r, hn⟩
      cases n with
      | zero => simp [loopN] at hn
      | succ n => simp only [loopN, h] at hn; exact hx ⟨n, r, hn⟩
    unfold loopF
    rw [dif_neg hx, dif_neg hy]

/-- counting up to n -/
theorem loop_upto {σ S R : Type} {step : S → Option (S ⊕ R)} (n : Nat) (emb : Nat → σ → S) (st : Nat → σ) (r : R)
    (hstep : ∀ k < n, step (emb k (st k)) = some (.inl (emb (k + 1) (st (k + 1))))) (hend : step (emb n (st n)) = some (.inr r)) : loopF step (emb 0 (st 0)) = some r := by
  have key : ∀ (m k : Nat), k + m = n → loopF step (emb k (st k)) = some r := by
    intro m
    induction m with
    | zero => intro k hk; have : k = n := by omega
              subst this; exact loopF_inr hend
    | succ m ih => intro k hk; rw [loopF_inl (hstep k (by omega))]; exact ih (k + 1) (by omega)
  exact key n 0 (by omega)

/-! ## Words -/

section
variable {R α β : Type}
@[simp] theorem bind_some' (x : β) (f : β → Option R) : N.bind (some x) f = f x := rfl

@[simp] theorem cond_true (x y : Option R) : N.cond true x y = x := rfl

@[simp] theorem cond_false (x y : Option R) : N.cond false x y = y := rfl

theorem cond_dec (p : Prop) [Decidable p] (x y : Option R) : N.cond (decide p) x y = if p then x else y := by unfold N.cond; by_cases h : p <;> simp [h]

theorem ite_if (c : Prop) [Decidable c] (x y : Option R) : N.ite c x y = if c then x else y := rfl

theorem nite_pos {c : Prop} [Decidable c] (h : c) (x y : Option R) : N.ite c x y = x := if_pos h

theorem lt_d (a b : Int) : N.lt a b = decide (a < b) := rfl

theorem eq_d (a b : Int) : N.eq a b = decide (a = b) := rfl

theorem ne_d (a b : Int) : N.ne a b = decide (¬ a = b) := by
  unfold N.ne; by_cases h : a = b <;> simp [h]

theorem len_d (xs : List α) : N.len xs = (xs.length : Int) := by simp [N.len]

theorem rd_at (xs : List α) (k : Nat) (hk : k < xs.length) (d : α) : N.rd xs (k : Int) d = xs[k] := by
  simp [N.rd, List.getD, hk]

theorem wrap_id {n : Int} (h1 : -9223372036854775808 ≤ n) (h2 : n < 9223372036854775808) : IntKind.i64.wrap n = n := by
  have e1 : ((2 : Int) ^ IntKind.i64.bits) = 18446744073709551616 := by decide
  have e2 : ((2 : Int) ^ (IntKind.i64.bits - 1)) = 9223372036854775808 := by decide
  have e3 : IntKind.i64.signed = true := rfl
  unfold IntKind.wrap
  rw [e1, e2, e3]
  simp only [Bool.true_and, decide_eq_true_eq]
  split <;> omega

theorem add_id {a b : Int} (h1 : -9223372036854775808 ≤ a + b) (h2 : a + b < 9223372036854775808) : N.add .i64 a b = a + b := wrap_id h1 h2

theorem sub_id {a b : Int} (h1 : -9223372036854775808 ≤ a - b) (h2 : a - b < 9223372036854775808) : N.sub .i64 a b = a - b := wrap_id h1 h2

theorem next_id {k n : Nat} (hk : k < n) (hn : (n : Int) < 9223372036854775808) : N.add .i64 (k : Int) 1 = ((k + 1 : Nat) : Int) := by
  rw [add_id (by omega) (by omega)]; omega

end
end Go.Sh
set_option linter.unusedVariables false
set_option linter.unusedSimpArgs false
namespace Go.Sh
open Go
/-! ## Bounds of data -/
class Data (α : Type) where
  bd : α → Prop
  ok : α → Prop
  le : ∀ x, ok x → bd x

class Flat (α : Type) [Data α] where
  fl : ∀ x : α, Data.bd x → Data.ok x

open Data
instance : Data Int := ⟨fun x => -9223372036854775808 ≤ x ∧ x < 9223372036854775808, fun x => -9223372036854775808 ≤ x ∧ x < 9223372036854775808, fun _ h => h⟩

instance : Data Bool := ⟨fun _ => True, fun _ => True, fun _ h => h⟩

instance : Data ByteArray := ⟨fun s => s.size ≤ 4611686018427387904, fun s => s.size ≤ 4611686018427387904, fun _ h => h⟩

instance {α β : Type} [Data α] [Data β] : Data (α × β) := ⟨fun x => bd x.1 ∧ bd x.2, fun x => ok x.1 ∧ ok x.2, fun x h => ⟨le _ h.1, le _ h.2⟩⟩

instance {α : Type} [Data α] : Data (List α) := ⟨fun xs => xs.length ≤ 4611686018427387904 ∧ ∀ x ∈ xs, bd x, fun xs => xs.length ≤ 1048576 ∧ ∀ x ∈ xs, ok x, fun xs h => ⟨by omega, fun x hx => le x (h.2 x hx)⟩⟩

instance : Flat Int := ⟨fun _ h => h⟩

instance : Flat Bool := ⟨fun _ h => h⟩

instance : Flat ByteArray := ⟨fun _ h => h⟩

instance {α β : Type} [Data α] [Data β] [Flat α] [Flat β] : Flat (α × β) := ⟨fun x h => ⟨Flat.fl _ h.1, Flat.fl _ h.2⟩⟩

section
variable {α : Type} [Data α]
theorem Data.ok.at {xs : List α} (h : ok xs) {k : Nat} (hk : k < xs.length) : ok xs[k] := h.2 _ (List.getElem_mem hk)

theorem Data.bd.at {xs : List α} (h : bd xs) {k : Nat} (hk : k < xs.length) : bd xs[k] := h.2 _ (List.getElem_mem hk)

theorem Data.ok.sub {xs ys : List α} (h : ok xs) (hs : ys.Sublist xs) : ok ys := ⟨Nat.le_trans hs.length_le h.1, fun x hx => h.2 x (hs.subset hx)⟩

end
/-! ## Words, once more -/

section
variable {R α β : Type}
theorem neB_d (a b : Bool) : N.neB a b = decide (¬ a = b) := by cases a <;> cases b <;> rfl

theorem not_d (p : Prop) [Decidable p] : N.not (decide p) = decide (¬ p) := by unfold N.not; by_cases h : p <;> simp [h]

theorem both_d (p q : Prop) [Decidable p] [Decidable q] : N.both (decide p) (decide q) = decide (p ∧ q) := by unfold N.both; by_cases h : p <;> by_cases h' : q <;> simp [h, h']

/-! ## Copies -/
theorem set_grow {xs ys : List α} {k : Nat} (hk : k < xs.length) (hl : ys.length = xs.length) (h : ys.take k = xs.take k) : (ys.set k xs[k]).take (k + 1) = xs.take (k + 1) := by
  apply List.ext_getElem
  · simp [hl]
  · intro i h1 h2
    simp only [List.length_take, List.length_set] at h1 h2
    simp only [List.getElem_take, List.getElem_set]
    split
    · rename_i e; subst e; rfl
    · have hi : i < k := by omega
      have := congrArg (fun l => l[i]?) h
      simp [List.getElem?_take, hi] at this
      rw [List.getElem?_eq_getElem (by omega), List.getElem?_eq_getElem (by omega)] at this
      simpa using this

/-- an element of a list that is copied -/
def toStep (xs : List α) (d : α) (f : α → Option α) (s1 : Int × List α) : Option ((Int × List α) ⊕ List α) :=
  N.cond (N.lt s1.1 (N.len xs)) (N.ite (0 ≤ s1.1) (N.ite (s1.1 < N.len xs) (N.bind (f (N.rd xs s1.1 d)) fun r1 => N.ite (0 ≤ s1.1) (N.ite (s1.1 < N.len s1.2) (some (.inl (N.add .i64 s1.1 1, N.set s1.2 s1.1 r1))) none) none) none) none) (some (.inr s1.2))

theorem toLoop {xs : List α} {d : α} {f : α → Option α} (hf : ∀ x ∈ xs, f x = some x) (hs : xs.length ≤ 1048576) : loopF (toStep xs d f) (0, N.rep (N.len xs) d) = some xs := by
  have key : ∀ (m k : Nat) (ys : List α), k + m = xs.length → ys.length = xs.length → ys.take k = xs.take k → loopF (toStep xs d f) ((k : Int), ys) = some xs := by
    intro m
    induction m with
    | zero =>
      intro k ys hk hl ht
      refine loopF_inr ?_
      have : ys = xs := by
        rw [show k = xs.length by omega] at ht
        rw [List.take_length, ← hl, List.take_length] at ht
        exact ht
      subst this
      simp only [toStep, lt_d, len_d, cond_dec]
      rw [if_neg (by omega)]
    | succ m ih =>
      intro k ys hk hl ht
      have hlt : k < xs.length := by omega
      rw [loopF_inl (s' := (((k + 1 : Nat) : Int), ys.set k xs[k])) ?_]
      · exact ih (k + 1) _ (by omega) (by simp [hl]) (set_grow hlt hl ht)
      · simp only [toStep, ite_if]; simp only [lt_d, len_d, cond_dec]
        rw [if_pos (by omega), if_pos (by omega), if_pos (by omega), rd_at xs k hlt, hf _ (List.getElem_mem hlt), bind_some', if_pos (by omega), if_pos (by omega), next_id hlt (by omega)]
        rfl
  have := key xs.length 0 (N.rep (N.len xs) d) (by omega) (by simp [N.rep, N.len]) (by simp)
  simpa using this

theorem toS_is {xs : List α} {bytes : Nat} {d : α} {f : α → Option α} (hb : bytes ≤ 10000) (hf : ∀ x ∈ xs, f x = some x) (hs : xs.length ≤ 1048576) :
    N.ite (0 ≤ N.len xs) (N.ite (N.room (N.len xs) bytes) (loopF (toStep xs d f) (0, N.rep (N.len xs) d)) none) none = some xs := by
  rw [nite_pos (by simp [N.len]), nite_pos, toLoop hf hs]
  unfold N.room N.len
  have : (xs.length : Int) * bytes ≤ 1048576 * 10000 := Int.mul_le_mul (by omega) (by omega) (by omega) (by omega)
  omega

/-- an element that comes back as its leaves -/
theorem toS2_is {β : Type} {xs : List α} {bytes : Nat} {d : α} {f : α → Option β} {g : β → α} (hb : bytes ≤ 10000) (hf : ∀ x ∈ xs, ∃ r, f x = some r ∧ g r = x) (hs : xs.length ≤ 1048576) :
    N.ite (0 ≤ N.len xs) (N.ite (N.room (N.len xs) bytes) (loopF (fun (s1 : Int × List α) => N.cond (N.lt s1.1 (N.len xs)) (N.ite (0 ≤ s1.1) (N.ite (s1.1 < N.len xs) (N.bind (f (N.rd xs s1.1 d)) fun r1 => N.ite (0 ≤ s1.1) (N.ite (s1.1 < N.len s1.2) (some (.inl (N.add .i64 s1.1 1, N.set s1.2 s1.1 (g r1)))) none) none) none) none) (some (.inr s1.2))) (0, N.rep (N.len xs) d)) none) none = some xs := by
  have e : (fun (s1 : Int × List α) => N.cond (N.lt s1.1 (N.len xs)) (N.ite (0 ≤ s1.1) (N.ite (s1.1 < N.len xs) (N.bind (f (N.rd xs s1.1 d)) fun r1 => N.ite (0 ≤ s1.1) (N.ite (s1.1 < N.len s1.2) (some (.inl (N.add .i64 s1.1 1, N.set s1.2 s1.1 (g r1)))) none) none) none) none) (some (.inr s1.2))) = toStep xs d (fun y => (f y).map g) := by
    funext s
    unfold toStep
    show _ = N.cond _ (N.ite _ (N.ite _ (N.bind ((f (N.rd xs s.1 d)).map g) _) _) _) _
    cases f (N.rd xs s.1 d) <;> rfl
  rw [e]
  exact toS_is hb (fun x hx => by obtain ⟨r, h1, h2⟩ := hf x hx; rw [h1, Option.map_some, h2]) hs

/-! ## Comparing -/
def eqStep (xs ys : List α) (d : α) (f : α → α → Option Bool) (s1 : Int) : Option (Int ⊕ Bool) :=
  N.cond (N.lt s1 (N.len xs)) (N.ite (0 ≤ s1) (N.ite (s1 < N.len xs) (N.ite (0 ≤ s1) (N.ite (s1 < N.len ys) (N.bind (f (N.rd xs s1 d) (N.rd ys s1 d)) fun r1 => N.cond (N.not r1) (some (.inr false)) (some (.inl (N.add .i64 s1 1)))) none) none) none) none) (some (.inr true))

theorem eqLoop [DecidableEq α] {xs ys : List α} {d : α} {f : α → α → Option Bool} {r : α → α → Bool} (hf : ∀ x ∈ xs, ∀ y ∈ ys, f x y = some (r x y)) (hs : xs.length ≤ 4611686018427387904) (hl : xs.length = ys.length) :
    loopF (eqStep xs ys d f) 0 = some ((List.zip xs ys).all fun p => r p.1 p.2) := by
  have key : ∀ (m k : Nat), k + m = xs.length → loopF (eqStep xs ys d f) (k : Int) = some ((List.zip (xs.drop k) (ys.drop k)).all fun p => r p.1 p.2) := by
    intro m
    induction m with
    | zero =>
      intro k hk
      rw [loopF_inr (r := true) ?_]
      · rw [List.drop_eq_nil_of_le (by omega)]; simp
      · simp only [eqStep, lt_d, len_d, cond_dec]; rw [if_neg (by omega)]
    | succ m ih =>
      intro k hk
      have hlt : k < xs.length := by omega
      have hlt' : k < ys.length := by omega
      rw [List.drop_eq_getElem_cons hlt, List.drop_eq_getElem_cons hlt']
      have hst : eqStep xs ys d f (k : Int) = N.cond (N.not (r xs[k] ys[k])) (some (.inr false)) (some (.inl ((k + 1 : Nat) : Int))) := by
        simp only [eqStep, ite_if]; simp only [lt_d, len_d, cond_dec]
        rw [if_pos (by omega), if_pos (by omega), if_pos (by omega), if_pos (by omega), if_pos (by omega), rd_at xs k hlt, rd_at ys k hlt', hf _ (List.getElem_mem hlt) _ (List.getElem_mem hlt'), bind_some', next_id hlt (by omega)]
      cases hr : r xs[k] ys[k] with
      | true => rw [loopF_inl (s' := ((k + 1 : Nat) : Int)) (by rw [hst, hr]; rfl), ih (k + 1) (by omega)]; simp only [List.zip_cons_cons, List.all_cons, hr, Bool.true_and]
      | false => rw [loopF_inr (r := false) (by rw [hst, hr]; rfl)]; simp only [List.zip_cons_cons, List.all_cons, hr, Bool.false_and]
  simpa using key xs.length 0 (by omega)

theorem zip_all_eq [DecidableEq α] : ∀ {xs ys : List α}, xs.length = ys.length → ((List.zip xs ys).all fun p => decide (p.1 = p.2)) = decide (xs = ys)
  | [], [], _ => by simp
  | x :: xs, y :: ys, h => by
    simp only [List.zip_cons_cons, List.all_cons, zip_all_eq (xs := xs) (ys := ys) (by simpa using h)]
    by_cases h1 : x = y <;> by_cases h2 : xs = ys <;> simp [h1, h2]
  | [], _ :: _, h => by simp at h
  | _ :: _, [], h => by simp at h

theorem eqS_is [DecidableEq α] {xs ys : List α} {d : α} {f : α → α → Option Bool} (hf : ∀ x ∈ xs, ∀ y, f x y = some (decide (x = y))) (hs : xs.length ≤ 4611686018427387904) :
    N.cond (N.ne (N.len xs) (N.len ys)) (some false) (loopF (eqStep xs ys d f) 0) = some (decide (xs = ys)) := by
  simp only [ne_d, len_d, cond_dec]
  split
  · rename_i h
    have : ¬ xs = ys := fun e => h (by rw [e])
    simp [this]
  · rename_i h
    have hl : xs.length = ys.length := by omega
    rw [eqLoop (r := fun x y => decide (x = y)) (fun x hx y _ => hf x hx y) hs hl, zip_all_eq hl]

/-! ## Sizes -/
def SzOk [Data α] (f : α → Int → Option Int) : Prop := ∀ x left, bd x → 0 ≤ left → left ≤ 1048576 → ∃ r, f x left = some r ∧ (r < 0 ∨ (ok x ∧ 0 ≤ r ∧ r ≤ left))

theorem szFlat_is [Data α] [Flat α] : SzOk (fun (xs : List α) (left : Int) => N.cond (N.lt (N.sub .i64 left (N.len xs)) 0) (some (-1)) (some (N.sub .i64 left (N.len xs)))) := by
  intro xs left hb h0 h1
  have h2 := hb.1
  simp only [len_d, lt_d, cond_dec, sub_id (a := left) (b := (xs.length : Int)) (by omega) (by omega)]
  split
  · exact ⟨-1, rfl, .inl (by omega)⟩
  · exact ⟨_, rfl, .inr ⟨⟨by omega, fun x hx => Flat.fl x (hb.2 x hx)⟩, by omega, by omega⟩⟩

def szStep (xs : List α) (d : α) (f : α → Int → Option Int) (s1 : Int × Int) : Option ((Int × Int) ⊕ Int) :=
  N.cond (N.lt s1.2 (N.len xs)) (N.ite (0 ≤ s1.2) (N.ite (s1.2 < N.len xs) (N.bind (f (N.rd xs s1.2 d) s1.1) fun r1 => N.cond (N.lt r1 0) (some (.inr (-1))) (some (.inl (r1, N.add .i64 s1.2 1)))) none) none) (some (.inr s1.1))

theorem szNest_is [Data α] {d : α} {f : α → Int → Option Int} (hf : SzOk f) : SzOk (fun (xs : List α) (left : Int) => N.cond (N.lt (N.sub .i64 left (N.len xs)) 0) (some (-1)) (loopF (szStep xs d f) (N.sub .i64 left (N.len xs), 0))) := by
  intro xs left hb h0 h1
  have h2 := hb.1
  simp only [len_d, lt_d, cond_dec, sub_id (a := left) (b := (xs.length : Int)) (by omega) (by omega)]
  split
  · exact ⟨-1, rfl, .inl (by omega)⟩
  · have key : ∀ (m k : Nat) (l : Int), k + m = xs.length → 0 ≤ l → l ≤ 1048576 → ∃ r, loopF (szStep xs d f) (l, (k : Int)) = some r ∧ (r < 0 ∨ ((∀ x ∈ xs.drop k, ok x) ∧ 0 ≤ r ∧ r ≤ l)) := by
      intro m
      induction m with
      | zero =>
        intro k l hk hl0 hl1
        refine ⟨l, loopF_inr ?_, .inr ⟨fun x hx => ?_, hl0, by omega⟩⟩
        · simp only [szStep, lt_d, len_d, cond_dec]; rw [if_neg (by omega)]
        · rw [List.drop_eq_nil_of_le (by omega)] at hx; cases hx
      | succ m ih =>
        intro k l hk hl0 hl1
        have hlt : k < xs.length := by omega
        obtain ⟨r, e, h⟩ := hf xs[k] l (hb.at hlt) hl0 hl1
        have hst : szStep xs d f (l, (k : Int)) = if r < 0 then some (.inr (-1)) else some (.inl (r, ((k + 1 : Nat) : Int))) := by
          simp only [szStep, ite_if]; simp only [lt_d, len_d, cond_dec]
          rw [if_pos (by omega), if_pos (by omega), if_pos (by omega), rd_at xs k hlt, e, bind_some', next_id hlt (by omega)]
        rcases h with h | ⟨h3, h4, h5⟩
        · exact ⟨-1, loopF_inr (by rw [hst, if_pos h]), .inl (by omega)⟩
        · obtain ⟨r2, e2, h6⟩ := ih (k + 1) r (by omega) h4 (by omega)
          refine ⟨r2, by rw [loopF_inl (by rw [hst, if_neg (by omega)]), e2], h6.imp id fun ⟨h7, h8, h9⟩ => ⟨fun x hx => ?_, h8, by omega⟩⟩
          rw [List.drop_eq_getElem_cons hlt] at hx
          rcases List.mem_cons.1 hx with rfl | hx
          · exact h3
          · exact h7 x hx
    obtain ⟨r, e, h⟩ := key xs.length 0 (left - xs.length) (by omega) (by omega) (by omega)
    refine ⟨r, e, h.imp id fun ⟨h7, h8, h9⟩ => ⟨⟨by omega, by simpa using h7⟩, h8, by omega⟩⟩

end
end Go.Sh
set_option linter.unusedVariables false
set_option linter.unusedSimpArgs false
set_option synthInstance.maxSize 100000
set_option maxHeartbeats 1000000
namespace Go.Sh
open Go Data
namespace D
theorem laws_szIntS_is : SzOk laws_szIntS := szFlat_is

theorem laws_toIntS_is (x : List Int) (h : ok x) : laws_toIntS x = some x := by
  unfold laws_toIntS
  exact toS_is (d := 0) (f := fun y => some y) (by decide) (fun y hy => rfl) h.1

theorem laws_eqIntS_is (x y : List Int) (h : ok x) : laws_eqIntS x y = some (decide (x = y)) := by
  have e : laws_eqIntS x y = N.cond (N.ne (N.len x) (N.len y)) (some false) (loopF (eqStep x y 0 fun a b => some (decide (a = b))) 0) := by
    unfold laws_eqIntS
    congr 2 <;> (funext s; simp only [eqStep, bind_some', ne_d, not_d, cond_dec]; try simp only [ite_not])
  rw [e]
  exact eqS_is (fun a ha b => rfl) (by have := h.1; omega)

theorem laws_szOpS_is : SzOk laws_szOpS := szFlat_is

theorem laws_toOp_is (x : Op) (h : ok x) : laws_toOp x = some x := rfl

theorem laws_toOpS_is (x : List Op) (h : ok x) : laws_toOpS x = some x := by
  unfold laws_toOpS
  exact toS_is (d := (0, 0, 0, 0)) (f := laws_toOp) (by decide) (fun y hy => laws_toOp_is y (h.2 y hy)) h.1

theorem laws_eqAddress_is (x y : Address) (h : ok x) : laws_eqAddress x y = some (decide (x = y)) := by
  obtain ⟨a0, a1, a2⟩ := x; obtain ⟨b0, b1, b2⟩ := y
  unfold laws_eqAddress
  simp only [ne_d, neB_d, not_d, cond_dec, Prod.mk.injEq]
  by_cases e0 : a0 = b0 <;> by_cases e1 : a1 = b1 <;> by_cases e2 : a2 = b2 <;> simp [e0, e1, e2]

theorem laws_eqEntry_is (x y : Entry) (h : ok x) : laws_eqEntry x y = some (decide (x = y)) := by
  obtain ⟨a0, a1, a2⟩ := x; obtain ⟨b0, b1, b2⟩ := y
  unfold laws_eqEntry
  simp only [laws_eqAddress_is _ _ h.2.1, bind_some']
  simp only [ne_d, neB_d, not_d, cond_dec, Prod.mk.injEq]
  by_cases e0 : a0 = b0 <;> by_cases e1 : a1 = b1 <;> by_cases e2 : a2 = b2 <;> simp [e0, e1, e2]

theorem laws_eqEntryS_is (x y : List Entry) (h : ok x) : laws_eqEntryS x y = some (decide (x = y)) := by
  unfold laws_eqEntryS
  exact eqS_is (d := (0, (0, 0, 0), 0)) (f := laws_eqEntry) (fun a ha b => laws_eqEntry_is a b (h.2 a ha)) (by have := h.1; omega)

theorem laws_eqOp_is (x y : Op) (h : ok x) : laws_eqOp x y = some (decide (x = y)) := by
  obtain ⟨a0, a1, a2, a3⟩ := x; obtain ⟨b0, b1, b2, b3⟩ := y
  unfold laws_eqOp
  simp only [ne_d, neB_d, not_d, cond_dec, Prod.mk.injEq]
  by_cases e0 : a0 = b0 <;> by_cases e1 : a1 = b1 <;> by_cases e2 : a2 = b2 <;> by_cases e3 : a3 = b3 <;> simp [e0, e1, e2, e3]

theorem laws_eqOpS_is (x y : List Op) (h : ok x) : laws_eqOpS x y = some (decide (x = y)) := by
  unfold laws_eqOpS
  exact eqS_is (d := (0, 0, 0, 0)) (f := laws_eqOp) (fun a ha b => laws_eqOp_is a b (h.2 a ha)) (by have := h.1; omega)

theorem laws_szEntryS_is : SzOk laws_szEntryS := szFlat_is

theorem laws_toAddress_is (x : Address) (h : ok x) : laws_toAddress x = some x := rfl

theorem laws_toEntry_is (x : Entry) (h : ok x) : laws_toEntry x = some x := by
  unfold laws_toEntry
  rw [laws_toAddress_is _ h.2.1, bind_some']

theorem laws_toEntryS_is (x : List Entry) (h : ok x) : laws_toEntryS x = some x := by
  unfold laws_toEntryS
  exact toS_is (d := (0, (0, 0, 0), 0)) (f := laws_toEntry) (by decide) (fun y hy => laws_toEntry_is y (h.2 y hy)) h.1

theorem laws_szResource_is : SzOk laws_szResource := by
  intro x left hb h0 h1
  unfold laws_szResource
  obtain ⟨r0, e0, g0⟩ := laws_szIntS_is _ left hb.2.1 h0 h1
  rw [e0, bind_some']
  rcases g0 with g0 | ⟨k0, l0, m0⟩
  · exact ⟨-1, by (try simp only [lt_d, cond_dec]); rw [if_pos g0], .inl (by omega)⟩
  (try simp only [lt_d, cond_dec]); rw [if_neg (by omega)]
  exact ⟨_, rfl, .inr ⟨⟨Flat.fl _ hb.1, k0, Flat.fl _ hb.2.2⟩, by omega, by omega⟩⟩

theorem laws_szCapture_is : SzOk laws_szCapture := by
  intro x left hb h0 h1
  unfold laws_szCapture
  obtain ⟨r0, e0, g0⟩ := laws_szResource_is _ left hb.2.2 h0 h1
  rw [e0, bind_some']
  rcases g0 with g0 | ⟨k0, l0, m0⟩
  · exact ⟨-1, by (try simp only [lt_d, cond_dec]); rw [if_pos g0], .inl (by omega)⟩
  (try simp only [lt_d, cond_dec]); rw [if_neg (by omega)]
  exact ⟨_, rfl, .inr ⟨⟨Flat.fl _ hb.1, Flat.fl _ hb.2.1, k0⟩, by omega, by omega⟩⟩

theorem laws_szCaptureS_is : SzOk laws_szCaptureS := szNest_is (d := ((0, 0, 0), 0, (0, [], (0, 0, 0)))) laws_szCapture_is

theorem laws_toResource_is (x : Resource) (h : ok x) : laws_toResource x = some (x.1, x.2.1, x.2.2.1, x.2.2.2.1, x.2.2.2.2) := by
  unfold laws_toResource
  rw [laws_toIntS_is _ h.2.1, bind_some', laws_toAddress_is _ h.2.2, bind_some']

theorem laws_toCapture_is (x : Capture) (h : ok x) : laws_toCapture x = some (x.1.1, x.1.2.1, x.1.2.2, x.2.1, x.2.2.1, x.2.2.2.1, x.2.2.2.2.1, x.2.2.2.2.2.1, x.2.2.2.2.2.2) := by
  unfold laws_toCapture
  rw [laws_toAddress_is _ h.1, bind_some', laws_toResource_is _ h.2.2, bind_some']

theorem laws_toCaptureS_is (x : List Capture) (h : ok x) : laws_toCaptureS x = some x := by
  unfold laws_toCaptureS
  exact toS2_is (d := ((0, 0, 0), 0, (0, [], (0, 0, 0)))) (f := laws_toCapture) (g := fun r => ((r.1, r.2.1, r.2.2.1), r.2.2.2.1, (r.2.2.2.2.1, r.2.2.2.2.2.1, (r.2.2.2.2.2.2.1, r.2.2.2.2.2.2.2.1, r.2.2.2.2.2.2.2.2)))) (by decide) (fun y hy => ⟨_, laws_toCapture_is y (h.2 y hy), rfl⟩) h.1

theorem laws_eqResource_is (x y : Resource) (h : ok x) : laws_eqResource x y = some (decide (x = y)) := by
  obtain ⟨a0, a1, a2⟩ := x; obtain ⟨b0, b1, b2⟩ := y
  unfold laws_eqResource
  simp only [laws_eqIntS_is _ _ h.2.1, laws_eqAddress_is _ _ h.2.2, bind_some']
  simp only [ne_d, neB_d, not_d, cond_dec, Prod.mk.injEq]
  by_cases e0 : a0 = b0 <;> by_cases e1 : a1 = b1 <;> by_cases e2 : a2 = b2 <;> simp [e0, e1, e2]

theorem laws_eqCapture_is (x y : Capture) (h : ok x) : laws_eqCapture x y = some (decide (x = y)) := by
  obtain ⟨a0, a1, a2⟩ := x; obtain ⟨b0, b1, b2⟩ := y
  unfold laws_eqCapture
  simp only [laws_eqAddress_is _ _ h.1, laws_eqResource_is _ _ h.2.2, bind_some']
  simp only [ne_d, neB_d, not_d, cond_dec, Prod.mk.injEq]
  by_cases e0 : a0 = b0 <;> by_cases e1 : a1 = b1 <;> by_cases e2 : a2 = b2 <;> simp [e0, e1, e2]

theorem laws_eqCaptureS_is (x y : List Capture) (h : ok x) : laws_eqCaptureS x y = some (decide (x = y)) := by
  unfold laws_eqCaptureS
  exact eqS_is (d := ((0, 0, 0), 0, (0, [], (0, 0, 0)))) (f := laws_eqCapture) (fun a ha b => laws_eqCapture_is a b (h.2 a ha)) (by have := h.1; omega)

theorem laws_szContainer_is : SzOk laws_szContainer := by
  intro x left hb h0 h1
  unfold laws_szContainer
  obtain ⟨r0, e0, g0⟩ := laws_szOpS_is _ left hb.1 h0 h1
  rw [e0, bind_some']
  rcases g0 with g0 | ⟨k0, l0, m0⟩
  · exact ⟨-1, by (try simp only [lt_d, cond_dec]); rw [if_pos g0], .inl (by omega)⟩
  (try simp only [lt_d, cond_dec]); rw [if_neg (by omega)]
  obtain ⟨r1, e1, g1⟩ := laws_szEntryS_is _ r0 hb.2.1 l0 (by omega)
  rw [e1, bind_some']
  rcases g1 with g1 | ⟨k1, l1, m1⟩
  · exact ⟨-1, by (try simp only [lt_d, cond_dec]); rw [if_pos g1], .inl (by omega)⟩
  (try simp only [lt_d, cond_dec]); rw [if_neg (by omega)]
  obtain ⟨r2, e2, g2⟩ := laws_szCaptureS_is _ r1 hb.2.2.1 l1 (by omega)
  rw [e2, bind_some']
  rcases g2 with g2 | ⟨k2, l2, m2⟩
  · exact ⟨-1, by (try simp only [lt_d, cond_dec]); rw [if_pos g2], .inl (by omega)⟩
  (try simp only [lt_d, cond_dec]); rw [if_neg (by omega)]
  exact ⟨_, rfl, .inr ⟨⟨k0, k1, k2, Flat.fl _ hb.2.2.2⟩, by omega, by omega⟩⟩

theorem laws_szContainerS_is : SzOk laws_szContainerS := szNest_is (d := ([], [], [], 0)) laws_szContainer_is

theorem laws_szFoundS_is : SzOk laws_szFoundS := szFlat_is

theorem laws_szDisk_is : SzOk laws_szDisk := by
  intro x left hb h0 h1
  unfold laws_szDisk
  obtain ⟨r0, e0, g0⟩ := laws_szContainerS_is _ left hb.1 h0 h1
  rw [e0, bind_some']
  rcases g0 with g0 | ⟨k0, l0, m0⟩
  · exact ⟨-1, by (try simp only [lt_d, cond_dec]); rw [if_pos g0], .inl (by omega)⟩
  (try simp only [lt_d, cond_dec]); rw [if_neg (by omega)]
  obtain ⟨r1, e1, g1⟩ := laws_szFoundS_is _ r0 hb.2.1 l0 (by omega)
  rw [e1, bind_some']
  rcases g1 with g1 | ⟨k1, l1, m1⟩
  · exact ⟨-1, by (try simp only [lt_d, cond_dec]); rw [if_pos g1], .inl (by omega)⟩
  (try simp only [lt_d, cond_dec]); rw [if_neg (by omega)]
  obtain ⟨r2, e2, g2⟩ := laws_szContainerS_is _ r1 hb.2.2 l1 (by omega)
  rw [e2, bind_some']
  rcases g2 with g2 | ⟨k2, l2, m2⟩
  · exact ⟨-1, by (try simp only [lt_d, cond_dec]); rw [if_pos g2], .inl (by omega)⟩
  (try simp only [lt_d, cond_dec]); rw [if_neg (by omega)]
  exact ⟨_, rfl, .inr ⟨⟨k0, k1, k2⟩, by omega, by omega⟩⟩

theorem laws_toContainer_is (x : Container) (h : ok x) : laws_toContainer x = some x := by
  unfold laws_toContainer
  rw [laws_toOpS_is _ h.1, bind_some', laws_toEntryS_is _ h.2.1, bind_some', laws_toCaptureS_is _ h.2.2.1, bind_some']

theorem laws_toContainerS_is (x : List Container) (h : ok x) : laws_toContainerS x = some x := by
  unfold laws_toContainerS
  exact toS_is (d := ([], [], [], 0)) (f := laws_toContainer) (by decide) (fun y hy => laws_toContainer_is y (h.2 y hy)) h.1

theorem laws_toFound_is (x : Found) (h : ok x) : laws_toFound x = some x := by
  unfold laws_toFound
  rw [laws_toAddress_is _ h.1, bind_some']

theorem laws_toFoundS_is (x : List Found) (h : ok x) : laws_toFoundS x = some x := by
  unfold laws_toFoundS
  exact toS_is (d := ((0, 0, 0), 0, 0, 0)) (f := laws_toFound) (by decide) (fun y hy => laws_toFound_is y (h.2 y hy)) h.1

theorem laws_toDisk_is (x : Disk) (h : ok x) : laws_toDisk x = some x := by
  unfold laws_toDisk
  rw [laws_toContainerS_is _ h.1, bind_some', laws_toFoundS_is _ h.2.1, bind_some', laws_toContainerS_is _ h.2.2, bind_some']

theorem laws_eqFound_is (x y : Found) (h : ok x) : laws_eqFound x y = some (decide (x = y)) := by
  obtain ⟨a0, a1, a2, a3⟩ := x; obtain ⟨b0, b1, b2, b3⟩ := y
  unfold laws_eqFound
  simp only [laws_eqAddress_is _ _ h.1, bind_some']
  simp only [ne_d, neB_d, not_d, cond_dec, Prod.mk.injEq]
  by_cases e0 : a0 = b0 <;> by_cases e1 : a1 = b1 <;> by_cases e2 : a2 = b2 <;> by_cases e3 : a3 = b3 <;> simp [e0, e1, e2, e3]

theorem laws_eqFoundS_is (x y : List Found) (h : ok x) : laws_eqFoundS x y = some (decide (x = y)) := by
  unfold laws_eqFoundS
  exact eqS_is (d := ((0, 0, 0), 0, 0, 0)) (f := laws_eqFound) (fun a ha b => laws_eqFound_is a b (h.2 a ha)) (by have := h.1; omega)

theorem laws_eqContainer_is (x y : Container) (h : ok x) : laws_eqContainer x y = some (decide (x = y)) := by
  obtain ⟨a0, a1, a2, a3⟩ := x; obtain ⟨b0, b1, b2, b3⟩ := y
  unfold laws_eqContainer
  simp only [laws_eqOpS_is _ _ h.1, laws_eqEntryS_is _ _ h.2.1, laws_eqCaptureS_is _ _ h.2.2.1, bind_some']
  simp only [ne_d, neB_d, not_d, cond_dec, Prod.mk.injEq]
  by_cases e0 : a0 = b0 <;> by_cases e1 : a1 = b1 <;> by_cases e2 : a2 = b2 <;> by_cases e3 : a3 = b3 <;> simp [e0, e1, e2, e3]

theorem laws_eqContainerS_is (x y : List Container) (h : ok x) : laws_eqContainerS x y = some (decide (x = y)) := by
  unfold laws_eqContainerS
  exact eqS_is (d := ([], [], [], 0)) (f := laws_eqContainer) (fun a ha b => laws_eqContainer_is a b (h.2 a ha)) (by have := h.1; omega)

theorem laws_eqDisk_is (x y : Disk) (h : ok x) : laws_eqDisk x y = some (decide (x = y)) := by
  obtain ⟨a0, a1, a2⟩ := x; obtain ⟨b0, b1, b2⟩ := y
  unfold laws_eqDisk
  simp only [laws_eqContainerS_is _ _ h.1, laws_eqFoundS_is _ _ h.2.1, laws_eqContainerS_is _ _ h.2.2, bind_some']
  simp only [ne_d, neB_d, not_d, cond_dec, Prod.mk.injEq]
  by_cases e0 : a0 = b0 <;> by_cases e1 : a1 = b1 <;> by_cases e2 : a2 = b2 <;> simp [e0, e1, e2]

end D
end Go.Sh
set_option linter.unusedVariables false
set_option linter.unusedSimpArgs false
set_option synthInstance.maxSize 100000
set_option maxHeartbeats 1000000
namespace Go.Sh
open Go Data
namespace D
end D
end Go.Sh
set_option linter.unusedVariables false
set_option linter.unusedSimpArgs false
set_option synthInstance.maxSize 100000
set_option maxHeartbeats 1000000
namespace Go.Sh
open Go Data
namespace D
/-! ## Counts -/

end D
end Go.Sh
set_option linter.unusedVariables false
set_option linter.unusedSimpArgs false
set_option synthInstance.maxSize 100000
set_option maxHeartbeats 1000000
namespace Go.Sh
open Go Data
/-- collecting -/
theorem loop_flat {α β : Type} {step : List β × Int → Option ((List β × Int) ⊕ List β)} (xs : List α) (f : α → List β)
    (hstep : ∀ (k : Nat) (hk : k < xs.length), step ((xs.take k).flatMap f, (k : Int)) = some (.inl ((xs.take k).flatMap f ++ f xs[k], ((k + 1 : Nat) : Int))))
    (hend : step (xs.flatMap f, (xs.length : Int)) = some (.inr (xs.flatMap f))) : loopF step ([], 0) = some (xs.flatMap f) := by
  refine loop_upto (r := xs.flatMap f) xs.length (fun k (a : List β) => (a, (k : Int))) (fun k => (xs.take k).flatMap f) (fun k hk => ?_) ?_
  · rw [hstep k hk, List.take_succ_eq_append_getElem hk, List.flatMap_append]; simp
  · rw [List.take_length]; exact hend

theorem flat_len {α β : Type} {f : α → List β} {m : Nat} : ∀ (xs : List α), (∀ x ∈ xs, (f x).length ≤ m) → (xs.flatMap f).length ≤ xs.length * m
  | [], _ => by simp
  | x :: xs, h => by
    have h1 := flat_len xs fun y hy => h y (by simp [hy])
    have h2 := h x (by simp)
    simp only [List.flatMap_cons, List.length_append, List.length_cons, Nat.add_mul]; omega

theorem take_flat_len {α β : Type} {f : α → List β} {m k : Nat} {xs : List α} (h : ∀ x ∈ xs, (f x).length ≤ m) (hk : k ≤ xs.length) : ((xs.take k).flatMap f).length ≤ k * m := by
  have := flat_len (xs.take k) fun y hy => h y (List.mem_of_mem_take hy)
  simpa [Nat.min_eq_left hk] using this

theorem fitsN {α : Type} {xs ys : List α} {b : Nat} (h : xs.length + ys.length ≤ 100000000) (hb : b ≤ 1000000) : N.fits xs ys b := by
  unfold N.fits
  exact Nat.le_trans (Nat.mul_le_mul h hb) (by decide)

namespace D
end D
end Go.Sh
set_option linter.unusedVariables false
set_option linter.unusedSimpArgs false
set_option synthInstance.maxSize 100000
set_option maxHeartbeats 1000000
namespace Go.Sh
open Go Data
namespace D
end D
end Go.Sh
set_option linter.unusedVariables false
set_option linter.unusedSimpArgs false
set_option synthInstance.maxSize 100000
set_option maxHeartbeats 1000000
namespace Go.Sh
open Go Data
namespace D
end D
end Go.Sh
set_option linter.unusedVariables false
set_option linter.unusedSimpArgs false
set_option synthInstance.maxSize 100000
set_option maxHeartbeats 1000000
namespace Go.Sh
open Go Data
theorem let_eq {α R : Type} (x : α) (f : α → Option R) : N.let_ x f = f x := rfl

theorem len_set {α : Type} (xs : List α) (i : Int) (v : α) : N.len (N.set xs i v) = N.len xs := by simp [N.len, N.set]

theorem rd_set {α : Type} {xs : List α} {i : Nat} (h : i < xs.length) (v d : α) : N.rd (N.set xs (i : Int) v) (i : Int) d = v := by simp [N.rd, N.set, List.getD, h]

theorem set_set {α : Type} (xs : List α) (i : Int) (v w : α) : N.set (N.set xs i v) i w = N.set xs i w := by simp [N.set]

theorem set_at {α : Type} (xs : List α) (i : Nat) (v : α) : N.set xs (i : Int) v = xs.set i v := by simp [N.set]

/-! ## Marks -/
def markL {α : Type} (mk : Int → α → α) (c : Int) : List α → Int → List α
  | [], _ => []
  | x :: xs, k => mk k x :: markL mk c xs (k + c)

theorem markL_len {α : Type} {mk : Int → α → α} {c : Int} : ∀ (xs : List α) (k : Int), (markL mk c xs k).length = xs.length
  | [], _ => rfl
  | x :: xs, k => by simp [markL, markL_len xs]

theorem markL_at {α : Type} {mk : Int → α → α} {c : Int} : ∀ (xs : List α) (k : Int) (i : Nat) (hi : i < xs.length) (hi' : i < (markL mk c xs k).length), (markL mk c xs k)[i] = mk (k + c * i) xs[i]
  | x :: xs, k, 0, _, _ => by simp [markL]
  | x :: xs, k, i + 1, hi, hi' => by
    simp only [markL, List.getElem_cons_succ]
    rw [markL_at xs (k + c) i (by simpa using hi)]
    congr 1
    rw [show ((i + 1 : Nat) : Int) = (i : Int) + 1 from by omega, Int.mul_add, Int.mul_one]; omega

theorem markL_app {α : Type} {mk : Int → α → α} {c : Int} : ∀ (xs ys : List α) (k : Int), markL mk c (xs ++ ys) k = markL mk c xs k ++ markL mk c ys (k + c * xs.length)
  | [], ys, k => by simp [markL]
  | x :: xs, ys, k => by
    simp only [List.cons_append, markL, markL_app xs ys, List.length_cons]
    rw [show ((xs.length + 1 : Nat) : Int) = (xs.length : Int) + 1 from by omega, Int.mul_add, Int.mul_one, show k + c + c * (xs.length : Int) = k + (c * (xs.length : Int) + c) from by omega]

theorem mark_loop {α : Type} {step : Int × Int × List α → Option ((Int × Int × List α) ⊕ (Int × List α))} {c B : Int} {mk : Int → α → α} (hc : 0 ≤ c)
    (hstep : ∀ (k : Int) (i : Nat) (ys : List α) (hi : i < ys.length), 0 ≤ k → k ≤ B → ys.length ≤ 1048576 → step (k, (i : Int), ys) = some (.inl (k + c, ((i + 1 : Nat) : Int), ys.set i (mk k ys[i]))))
    (hend : ∀ (k : Int) (ys : List α), step (k, (ys.length : Int), ys) = some (.inr (k, ys))) {xs : List α} {k : Int} (h0 : 0 ≤ k) (hB : k + c * xs.length ≤ B) (hl : xs.length ≤ 1048576) :
    loopF step (k, 0, xs) = some (k + c * xs.length, markL mk c xs k) := by
  have key : ∀ (m i : Nat), i + m = xs.length → loopF step (k + c * i, (i : Int), markL mk c (xs.take i) k ++ xs.drop i) = some (k + c * xs.length, markL mk c xs k) := by
    intro m
    induction m with
    | zero =>
      intro i hi
      have hi' : i = xs.length := by omega
      subst hi'
      rw [List.take_length, List.drop_length, List.append_nil]
      have := hend (k + c * xs.length) (markL mk c xs k)
      rw [markL_len] at this
      exact loopF_inr this
    | succ m ih =>
      intro i hi
      have hlt : i < xs.length := by omega
      have hle : c * (i : Int) ≤ c * (xs.length : Int) := Int.mul_le_mul_of_nonneg_left (by omega) hc
      have hge : 0 ≤ c * (i : Int) := Int.mul_nonneg hc (by omega)
      have hlen : (markL mk c (xs.take i) k).length = i := by rw [markL_len, List.length_take]; omega
      have hs := hstep (k + c * i) i (markL mk c (xs.take i) k ++ xs.drop i) (by rw [List.length_append, hlen, List.length_drop]; omega) (by omega) (by omega) (by rw [List.length_append, hlen, List.length_drop]; omega)
      rw [loopF_inl hs]
      have e1 : (markL mk c (xs.take i) k ++ xs.drop i)[i]'(by rw [List.length_append, hlen, List.length_drop]; omega) = xs[i] := by
        rw [List.getElem_append_right (by omega)]
        simp only [hlen, Nat.sub_self, List.getElem_drop, Nat.add_zero]
      have e2 : (markL mk c (xs.take i) k ++ xs.drop i).set i (mk (k + c * i) xs[i]) = markL mk c (xs.take (i + 1)) k ++ xs.drop (i + 1) := by
        rw [List.take_succ_eq_append_getElem hlt, markL_app, List.length_take, Nat.min_eq_left (by omega), List.set_append_right _ _ (by omega), hlen, Nat.sub_self, List.drop_eq_getElem_cons hlt, List.set_cons_zero, List.append_assoc]; rfl
      rw [e1, e2, show k + c * (i : Int) + c = k + c * ((i + 1 : Nat) : Int) from by rw [show ((i + 1 : Nat) : Int) = (i : Int) + 1 from by omega, Int.mul_add, Int.mul_one]; omega]
      exact ih (i + 1) (by omega)
  have := key xs.length 0 (by omega)
  simpa [markL] using this

theorem held_loop {α : Type} {step : Int × Int → Option ((Int × Int) ⊕ Int)} {c B : Int} {mk : Int → α → α} {xs : List α} {k : Int} (hc : 0 ≤ c)
    (hstep : ∀ (q : Int) (i : Nat) (hi : i < xs.length) (hi' : i < (markL mk c xs k).length), (markL mk c xs k)[i] = mk q xs[i] → 0 ≤ q → q ≤ B → step (q, (i : Int)) = some (.inl (q + c, ((i + 1 : Nat) : Int))))
    (hend : ∀ (q : Int), step (q, (xs.length : Int)) = some (.inr q)) (h0 : 0 ≤ k) (hB : k + c * xs.length ≤ B) : loopF step (k, 0) = some (k + c * xs.length) := by
  have := loop_upto (step := step) (r := k + c * xs.length) xs.length (fun i (q : Int) => (q, (i : Int))) (fun i => k + c * i) (fun i hi => ?_) ?_
  · simpa using this
  · have hle : c * (i : Int) ≤ c * (xs.length : Int) := Int.mul_le_mul_of_nonneg_left (by omega) hc
    have hge : 0 ≤ c * (i : Int) := Int.mul_nonneg hc (by omega)
    have hi' : i < (markL mk c xs k).length := by rw [markL_len]; exact hi
    rw [hstep (k + c * i) i hi hi' (markL_at xs k i hi hi') (by omega) (by omega)]
    rw [show k + c * (i : Int) + c = k + c * ((i + 1 : Nat) : Int) from by rw [show ((i + 1 : Nat) : Int) = (i : Int) + 1 from by omega, Int.mul_add, Int.mul_one]; omega]
  · rw [hend]

namespace D
def mkEntryS (k : Int) (_ : Entry) : Entry := (k, (k + 1, k + 1 + 1, k + 1 + 1 + 1), k + 1 + 1 + 1 + 1)

theorem laws_markEntryS_is {x : List Entry} {k : Int} (h0 : 0 ≤ k) (hk : k ≤ 8000000000000000000) (h : ok x) : laws_markEntryS x k = some (k + 5 * x.length, markL mkEntryS 5 x k) := by
  have hl := h.1
  refine mark_loop (B := 9000000000000000000) (c := 5) (mk := mkEntryS) (by omega) (fun k i ys hi h0 h1 hl => ?_) (fun k ys => ?_) h0 (by omega) hl
  · have i0 : (0 : Int) ≤ (i : Int) := by omega
    have i1 : (i : Int) < (ys.length : Int) := by omega
    have a0 : N.add .i64 (k) 1 = k + 1 := add_id (by omega) (by omega)
    have a1 : N.add .i64 (k + 1) 1 = k + 1 + 1 := add_id (by omega) (by omega)
    have a2 : N.add .i64 (k + 1 + 1) 1 = k + 1 + 1 + 1 := add_id (by omega) (by omega)
    have a3 : N.add .i64 (k + 1 + 1 + 1) 1 = k + 1 + 1 + 1 + 1 := add_id (by omega) (by omega)
    have a4 : N.add .i64 (k + 1 + 1 + 1 + 1) 1 = k + 1 + 1 + 1 + 1 + 1 := add_id (by omega) (by omega)
    have e : k + 1 + 1 + 1 + 1 + 1 = k + 5 := by omega
    simp only [ite_if]; (try simp only [let_eq, len_set]); simp only [set_set, rd_set hi, lt_d, len_d, cond_dec, i0, i1, if_true, a0, a1, a2, a3, a4, eq_d, next_id hi (by omega), e]
    rw [set_at]; rfl
  · simp only [lt_d, len_d, cond_dec]; rw [if_neg (by omega)]

def mkFoundS (k : Int) (_ : Found) : Found := ((k, k + 1, k + 1 + 1), k + 1 + 1 + 1, k + 1 + 1 + 1 + 1, k + 1 + 1 + 1 + 1 + 1)

theorem laws_markFoundS_is {x : List Found} {k : Int} (h0 : 0 ≤ k) (hk : k ≤ 8000000000000000000) (h : ok x) : laws_markFoundS x k = some (k + 6 * x.length, markL mkFoundS 6 x k) := by
  have hl := h.1
  refine mark_loop (B := 9000000000000000000) (c := 6) (mk := mkFoundS) (by omega) (fun k i ys hi h0 h1 hl => ?_) (fun k ys => ?_) h0 (by omega) hl
  · have i0 : (0 : Int) ≤ (i : Int) := by omega
    have i1 : (i : Int) < (ys.length : Int) := by omega
    have a0 : N.add .i64 (k) 1 = k + 1 := add_id (by omega) (by omega)
    have a1 : N.add .i64 (k + 1) 1 = k + 1 + 1 := add_id (by omega) (by omega)
    have a2 : N.add .i64 (k + 1 + 1) 1 = k + 1 + 1 + 1 := add_id (by omega) (by omega)
    have a3 : N.add .i64 (k + 1 + 1 + 1) 1 = k + 1 + 1 + 1 + 1 := add_id (by omega) (by omega)
    have a4 : N.add .i64 (k + 1 + 1 + 1 + 1) 1 = k + 1 + 1 + 1 + 1 + 1 := add_id (by omega) (by omega)
    have a5 : N.add .i64 (k + 1 + 1 + 1 + 1 + 1) 1 = k + 1 + 1 + 1 + 1 + 1 + 1 := add_id (by omega) (by omega)
    have e : k + 1 + 1 + 1 + 1 + 1 + 1 = k + 6 := by omega
    simp only [ite_if]; (try simp only [let_eq, len_set]); simp only [set_set, rd_set hi, lt_d, len_d, cond_dec, i0, i1, if_true, a0, a1, a2, a3, a4, a5, eq_d, next_id hi (by omega), e]
    rw [set_at]; rfl
  · simp only [lt_d, len_d, cond_dec]; rw [if_neg (by omega)]

theorem laws_heldFoundS_is {x : List Found} {k : Int} (h0 : 0 ≤ k) (hk : k ≤ 8000000000000000000) (h : ok x) : laws_heldFoundS (markL mkFoundS 6 x k) k = some (k + 6 * x.length) := by
  have hl := h.1
  refine held_loop (B := 9000000000000000000) (c := 6) (mk := mkFoundS) (xs := x) (by omega) (fun k i hi hi' hm h0 h1 => ?_) (fun q => ?_) h0 (by omega)
  · have i0 : (0 : Int) ≤ (i : Int) := by omega
    have i1 : (i : Int) < (x.length : Int) := by omega
    have a0 : N.add .i64 (k) 1 = k + 1 := add_id (by omega) (by omega)
    have a1 : N.add .i64 (k + 1) 1 = k + 1 + 1 := add_id (by omega) (by omega)
    have a2 : N.add .i64 (k + 1 + 1) 1 = k + 1 + 1 + 1 := add_id (by omega) (by omega)
    have a3 : N.add .i64 (k + 1 + 1 + 1) 1 = k + 1 + 1 + 1 + 1 := add_id (by omega) (by omega)
    have a4 : N.add .i64 (k + 1 + 1 + 1 + 1) 1 = k + 1 + 1 + 1 + 1 + 1 := add_id (by omega) (by omega)
    have a5 : N.add .i64 (k + 1 + 1 + 1 + 1 + 1) 1 = k + 1 + 1 + 1 + 1 + 1 + 1 := add_id (by omega) (by omega)
    have e : k + 1 + 1 + 1 + 1 + 1 + 1 = k + 6 := by omega
    simp only [ite_if]; simp only [lt_d, len_d, markL_len, cond_dec, i0, i1, if_true, rd_at _ i hi', hm, mkFoundS, a0, a1, a2, a3, a4, a5, eq_d, ne_d, neB_d, next_id hi (by omega), e]
    simp
  · simp only [lt_d, len_d, markL_len, cond_dec]; rw [if_neg (by omega)]

def mkIntS (k : Int) (_ : Int) : Int := k

def mkOpS (k : Int) (_ : Op) : Op := (k, k + 1, k + 1 + 1, k + 1 + 1 + 1)

theorem laws_markOpS_is {x : List Op} {k : Int} (h0 : 0 ≤ k) (hk : k ≤ 8000000000000000000) (h : ok x) : laws_markOpS x k = some (k + 4 * x.length, markL mkOpS 4 x k) := by
  have hl := h.1
  refine mark_loop (B := 9000000000000000000) (c := 4) (mk := mkOpS) (by omega) (fun k i ys hi h0 h1 hl => ?_) (fun k ys => ?_) h0 (by omega) hl
  · have i0 : (0 : Int) ≤ (i : Int) := by omega
    have i1 : (i : Int) < (ys.length : Int) := by omega
    have a0 : N.add .i64 (k) 1 = k + 1 := add_id (by omega) (by omega)
    have a1 : N.add .i64 (k + 1) 1 = k + 1 + 1 := add_id (by omega) (by omega)
    have a2 : N.add .i64 (k + 1 + 1) 1 = k + 1 + 1 + 1 := add_id (by omega) (by omega)
    have a3 : N.add .i64 (k + 1 + 1 + 1) 1 = k + 1 + 1 + 1 + 1 := add_id (by omega) (by omega)
    have e : k + 1 + 1 + 1 + 1 = k + 4 := by omega
    simp only [ite_if]; (try simp only [let_eq, len_set]); simp only [set_set, rd_set hi, lt_d, len_d, cond_dec, i0, i1, if_true, a0, a1, a2, a3, eq_d, next_id hi (by omega), e]
    rw [set_at]; rfl
  · simp only [lt_d, len_d, cond_dec]; rw [if_neg (by omega)]

end D
end Go.Sh
set_option linter.unusedVariables false
set_option linter.unusedSimpArgs false
set_option synthInstance.maxSize 100000
set_option maxHeartbeats 1000000
namespace Go.Sh
open Go Data
namespace D
end D
end Go.Sh
set_option linter.unusedVariables false
set_option linter.unusedSimpArgs false
set_option synthInstance.maxSize 100000
set_option maxHeartbeats 1000000
namespace Go.Sh
open Go Data
namespace D
end D
end Go.Sh
set_option linter.unusedVariables false
set_option linter.unusedSimpArgs false
set_option synthInstance.maxSize 100000
set_option maxHeartbeats 1000000
namespace Go.Sh
open Go Data
namespace D
end D
end Go.Sh
set_option linter.unusedVariables false
set_option linter.unusedSimpArgs false
set_option synthInstance.maxSize 100000
set_option maxHeartbeats 1000000
namespace Go.Sh
open Go Data
namespace D
end D
end Go.Sh
set_option linter.unusedVariables false
set_option linter.unusedSimpArgs false
set_option synthInstance.maxSize 100000
set_option maxHeartbeats 1000000
namespace Go.Sh
open Go Data
/-! ## What is drawn: it comes back, and keeps its bounds -/
def Gets {α : Type} (P : α → Prop) (r : Option α) : Prop := ∃ x, r = some x ∧ P x

section
variable {α β S R : Type} {P : α → Prop} {Q : R → Prop}
theorem Gets.bind {x : Option α} {f : α → Option R} (h : Gets P x) (hf : ∀ a, P a → Gets Q (f a)) : Gets Q (N.bind x f) := by
  obtain ⟨a, rfl, ha⟩ := h; exact hf a ha

theorem Gets.cond {b : Bool} {x y : Option R} (h1 : b = true → Gets Q x) (h2 : b = false → Gets Q y) : Gets Q (N.cond b x y) := by
  unfold N.cond; cases b
  · exact h2 rfl
  · exact h1 rfl

theorem Gets.ite {c : Prop} [Decidable c] {x y : Option R} (hc : c) (h : Gets Q x) : Gets Q (N.ite c x y) := by rw [nite_pos hc]; exact h

theorem Gets.let_ {x : α} {f : α → Option R} (h : Gets Q (f x)) : Gets Q (N.let_ x f) := h

end
def few {α : Type} [Data α] (n : Nat) (xs : List α) : Prop := xs.length ≤ n ∧ ∀ x ∈ xs, ok x

theorem few.ok {α : Type} [Data α] {n : Nat} {xs : List α} (h : few n xs) (hn : n ≤ 1048576) : ok xs := ⟨Nat.le_trans h.1 hn, h.2⟩

theorem few.app {α : Type} [Data α] {n m : Nat} {xs : List α} {x : α} (h : few n xs) (hx : Data.ok x) (hm : n + 1 ≤ m) : few m (N.app xs [x]) :=
  ⟨by have := h.1; simp [N.app]; omega, fun y hy => by
    rcases List.mem_append.1 hy with hy | hy
    · exact h.2 y hy
    · simp at hy; subst hy; exact hx⟩

theorem few.set {α : Type} [Data α] {n : Nat} {xs : List α} {x : α} {i : Int} (h : few n xs) (hx : Data.ok x) : few n (N.set xs i x) :=
  ⟨by have := h.1; simp [N.set]; omega, fun y hy => by
    rcases List.mem_or_eq_of_mem_set hy with hy | hy
    · exact h.2 y hy
    · subst hy; exact hx⟩

theorem few.rd {α : Type} [Data α] {n : Nat} {xs : List α} {i : Int} {d : α} (h : few n xs) (hd : Data.ok d) : Data.ok (N.rd xs i d) := by
  unfold N.rd
  rw [List.getD_eq_getElem?_getD]
  cases e : xs[i.toNat]? with
  | none => exact hd
  | some x => exact h.2 x (List.mem_of_getElem? e)

namespace D
end D
end Go.Sh
set_option linter.unusedVariables false
set_option linter.unusedSimpArgs false
set_option synthInstance.maxSize 100000
set_option maxHeartbeats 2000000
namespace Go.Sh
open Go Data
namespace D
end D
end Go.Sh
set_option linter.unusedVariables false
set_option linter.unusedSimpArgs false
set_option synthInstance.maxSize 100000
set_option maxHeartbeats 2000000
namespace Go.Sh
open Go Data
namespace D
end D
end Go.Sh
set_option linter.unusedVariables false
set_option linter.unusedSimpArgs false
set_option synthInstance.maxSize 100000
set_option maxHeartbeats 4000000
namespace Go.Sh
open Go Data
namespace D
end D
end Go.Sh
set_option linter.unusedVariables false
set_option linter.unusedSimpArgs false
set_option synthInstance.maxSize 100000
set_option maxHeartbeats 4000000
namespace Go.Sh
open Go Data
namespace D
end D
end Go.Sh
set_option linter.unusedVariables false
set_option linter.unusedSimpArgs false
set_option synthInstance.maxSize 100000
set_option maxHeartbeats 4000000
namespace Go.Sh
open Go Data
namespace D
end D
end Go.Sh
set_option linter.unusedVariables false
set_option linter.unusedSimpArgs false
set_option synthInstance.maxSize 100000
set_option maxHeartbeats 4000000
namespace Go.Sh
open Go Data
namespace D
end D
end Go.Sh
set_option linter.unusedVariables false
set_option linter.unusedSimpArgs false
set_option synthInstance.maxSize 100000
set_option maxHeartbeats 4000000
namespace Go.Sh
open Go Data
namespace D
/-! ## Marks of nested lists: they come back -/
theorem laws_markIntS_len {x : List Int} {k : Int} (h0 : 0 ≤ k) (hk : k ≤ 8000000000000000000) (hl : x.length ≤ 1048576) : laws_markIntS x k = some (k + 1 * x.length, markL mkIntS 1 x k) := by
  refine mark_loop (B := 9000000000000000000) (c := 1) (mk := mkIntS) (by omega) (fun k i ys hi h0 h1 hl => ?_) (fun k ys => ?_) h0 (by omega) hl
  · have i0 : (0 : Int) ≤ (i : Int) := by omega
    have i1 : (i : Int) < (ys.length : Int) := by omega
    have a0 : N.add .i64 (k) 1 = k + 1 := add_id (by omega) (by omega)
    have e : k + 1 = k + 1 := by omega
    simp only [ite_if]; (try simp only [let_eq, len_set]); simp only [set_set, rd_set hi, lt_d, len_d, cond_dec, i0, i1, if_true, a0, eq_d, next_id hi (by omega), e]
    rw [set_at]; rfl
  · simp only [lt_d, len_d, cond_dec]; rw [if_neg (by omega)]

end D
end Go.Sh
set_option linter.unusedVariables false
set_option linter.unusedSimpArgs false
set_option synthInstance.maxSize 100000
set_option maxHeartbeats 4000000
namespace Go.Sh
open Go Data
namespace D
end D
end Go.Sh
set_option linter.unusedVariables false
set_option linter.unusedSimpArgs false
set_option synthInstance.maxSize 100000
set_option maxHeartbeats 4000000
namespace Go.Sh
open Go Data
/-! ## Marks of lists whose elements take different numbers of marks -/
def sumW {α : Type} (we : α → Int) : List α → Int
  | [] => 0
  | x :: xs => we x + sumW we xs

theorem sumW_app {α : Type} {we : α → Int} : ∀ (xs ys : List α), sumW we (xs ++ ys) = sumW we xs + sumW we ys
  | [], ys => by simp [sumW]
  | x :: xs, ys => by simp only [List.cons_append, sumW, sumW_app xs ys]; omega

theorem sumW_nonneg {α : Type} {we : α → Int} (hw : ∀ x, 0 ≤ we x) : ∀ (xs : List α), 0 ≤ sumW we xs
  | [] => by simp [sumW]
  | x :: xs => by have := sumW_nonneg hw xs; have := hw x; simp only [sumW]; omega

theorem sumW_le {α : Type} {we : α → Int} {m : Int} : ∀ (xs : List α), (∀ x ∈ xs, we x ≤ m) → sumW we xs ≤ m * xs.length
  | [], _ => by simp [sumW]
  | x :: xs, h => by
    have h1 := sumW_le xs fun y hy => h y (by simp [hy])
    have h2 := h x (by simp)
    simp only [sumW, List.length_cons]
    rw [show ((xs.length + 1 : Nat) : Int) = (xs.length : Int) + 1 from by omega, Int.mul_add, Int.mul_one]; omega

theorem sumW_take {α : Type} {we : α → Int} (hw : ∀ x, 0 ≤ we x) (xs : List α) (i : Nat) (hi : i < xs.length) : 0 ≤ sumW we (xs.take i) ∧ sumW we (xs.take i) + we xs[i] ≤ sumW we xs := by
  refine ⟨sumW_nonneg hw _, ?_⟩
  have : sumW we xs = sumW we (xs.take i) + sumW we (xs.drop i) := by rw [← sumW_app, List.take_append_drop]
  rw [this, List.drop_eq_getElem_cons hi]
  have := sumW_nonneg hw (xs.drop (i + 1))
  simp only [sumW]; omega

def markW {α : Type} (mk : Int → α → α) (we : α → Int) : List α → Int → List α
  | [], _ => []
  | x :: xs, k => mk k x :: markW mk we xs (k + we x)

theorem markW_len {α : Type} {mk : Int → α → α} {we : α → Int} : ∀ (xs : List α) (k : Int), (markW mk we xs k).length = xs.length
  | [], _ => rfl
  | x :: xs, k => by simp [markW, markW_len xs]

theorem markW_app {α : Type} {mk : Int → α → α} {we : α → Int} : ∀ (xs ys : List α) (k : Int), markW mk we (xs ++ ys) k = markW mk we xs k ++ markW mk we ys (k + sumW we xs)
  | [], ys, k => by simp [markW, sumW]
  | x :: xs, ys, k => by
    simp only [List.cons_append, markW, markW_app xs ys, sumW]
    rw [Int.add_assoc]

theorem mark_loopW {α : Type} {step : Int × Int × List α → Option ((Int × Int × List α) ⊕ (Int × List α))} {we : α → Int} {B : Int} {L : Nat} {mk : Int → α → α} {P : α → Prop} (hw : ∀ x, 0 ≤ we x)
    (hstep : ∀ (k : Int) (i : Nat) (ys : List α) (hi : i < ys.length), 0 ≤ k → k + we ys[i] ≤ B → ys.length ≤ L → P ys[i] → step (k, (i : Int), ys) = some (.inl (k + we ys[i], ((i + 1 : Nat) : Int), ys.set i (mk k ys[i]))))
    (hend : ∀ (k : Int) (ys : List α), step (k, (ys.length : Int), ys) = some (.inr (k, ys))) {xs : List α} {k : Int} (h0 : 0 ≤ k) (hB : k + sumW we xs ≤ B) (hl : xs.length ≤ L) (hp : ∀ x ∈ xs, P x) :
    loopF step (k, 0, xs) = some (k + sumW we xs, markW mk we xs k) := by
  have key : ∀ (m i : Nat), i + m = xs.length → loopF step (k + sumW we (xs.take i), (i : Int), markW mk we (xs.take i) k ++ xs.drop i) = some (k + sumW we xs, markW mk we xs k) := by
    intro m
    induction m with
    | zero =>
      intro i hi
      have hi' : i = xs.length := by omega
      subst hi'
      rw [List.take_length, List.drop_length, List.append_nil]
      have := hend (k + sumW we xs) (markW mk we xs k)
      rw [markW_len] at this
      exact loopF_inr this
    | succ m ih =>
      intro i hi
      have hlt : i < xs.length := by omega
      have hge := sumW_take hw xs i hlt
      have hlen : (markW mk we (xs.take i) k).length = i := by rw [markW_len, List.length_take]; omega
      have hlen2 : i < (markW mk we (xs.take i) k ++ xs.drop i).length := by rw [List.length_append, hlen, List.length_drop]; omega
      have e1 : (markW mk we (xs.take i) k ++ xs.drop i)[i]'hlen2 = xs[i] := by
        rw [List.getElem_append_right (by omega)]
        simp only [hlen, Nat.sub_self, List.getElem_drop, Nat.add_zero]
      have e2 : (markW mk we (xs.take i) k ++ xs.drop i).set i (mk (k + sumW we (xs.take i)) xs[i]) = markW mk we (xs.take (i + 1)) k ++ xs.drop (i + 1) := by
        rw [List.take_succ_eq_append_getElem hlt, markW_app, List.set_append_right _ _ (by omega), hlen, Nat.sub_self, List.drop_eq_getElem_cons hlt, List.set_cons_zero, List.append_assoc]; rfl
      have e3 : sumW we (xs.take (i + 1)) = sumW we (xs.take i) + we xs[i] := by
        rw [List.take_succ_eq_append_getElem hlt, sumW_app]; simp [sumW]
      have hs := hstep (k + sumW we (xs.take i)) i (markW mk we (xs.take i) k ++ xs.drop i) hlen2 (by omega) (by rw [e1]; omega) (by rw [List.length_append, hlen, List.length_drop]; omega) (by rw [e1]; exact hp _ (List.getElem_mem hlt))
      rw [loopF_inl hs, e1, e2, Int.add_assoc, ← e3]
      exact ih (i + 1) (by omega)
  have := key xs.length 0 (by omega)
  simpa [markW, sumW] using this

end Go.Sh
set_option linter.unusedVariables false
set_option linter.unusedSimpArgs false
set_option synthInstance.maxSize 100000
set_option maxHeartbeats 4000000
namespace Go.Sh
open Go Data
theorem set_length {α : Type} (xs : List α) (i : Int) (v : α) : (N.set xs i v).length = xs.length := by simp [N.set]

namespace D
/-! ## Marks of captures -/
def wCaptureS (c : Capture) : Int := 8 + c.2.2.2.1.length

def mkCaptureS (k : Int) (c : Capture) : Capture :=
  ((k, k + 1, k + 1 + 1), k + 1 + 1 + 1, (k + 1 + 1 + 1 + 1, markL mkIntS 1 c.2.2.2.1 (k + 1 + 1 + 1 + 1 + 1), (k + 1 + 1 + 1 + 1 + 1 + 1 * c.2.2.2.1.length, k + 1 + 1 + 1 + 1 + 1 + 1 * c.2.2.2.1.length + 1, k + 1 + 1 + 1 + 1 + 1 + 1 * c.2.2.2.1.length + 1 + 1)))

theorem wCaptureS_pos (c : Capture) : 0 ≤ wCaptureS c := by unfold wCaptureS; omega

theorem wCaptureS_le {x : List Capture} (h : ok x) : sumW wCaptureS x ≤ 2000000 * 1048576 := by
  have h1 := sumW_le (we := wCaptureS) (m := 2000000) x fun c hc => by
    have := (h.2 c hc).2.2.2.1.1
    unfold wCaptureS; omega
  have := h.1
  omega

theorem laws_markCaptureS_is {x : List Capture} {k : Int} (h0 : 0 ≤ k) (hk : k ≤ 7000000000000000000) (h : ok x) : laws_markCaptureS x k = some (k + sumW wCaptureS x, markW mkCaptureS wCaptureS x k) := by
  have hs := wCaptureS_le h
  refine mark_loopW (we := wCaptureS) (B := 8000000000000000000) (mk := mkCaptureS) (P := ok) wCaptureS_pos (fun k i ys hi h0 h1 hl hp => ?_) (fun k ys => ?_) h0 (by omega) h.1 h.2
  · have i0 : (0 : Int) ≤ (i : Int) := by omega
    have i1 : (i : Int) < (ys.length : Int) := by omega
    have hb := hp.2.2.2.1.1
    unfold wCaptureS at h1 ⊢
    have a0 : N.add .i64 (k) 1 = k + 1 := add_id (by omega) (by omega)
    have a1 : N.add .i64 (k + 1) 1 = k + 1 + 1 := add_id (by omega) (by omega)
    have a2 : N.add .i64 (k + 1 + 1) 1 = k + 1 + 1 + 1 := add_id (by omega) (by omega)
    have a3 : N.add .i64 (k + 1 + 1 + 1) 1 = k + 1 + 1 + 1 + 1 := add_id (by omega) (by omega)
    have a4 : N.add .i64 (k + 1 + 1 + 1 + 1) 1 = k + 1 + 1 + 1 + 1 + 1 := add_id (by omega) (by omega)
    have m0 := laws_markIntS_len (x := (ys[i]).2.2.2.1) (k := k + 1 + 1 + 1 + 1 + 1) (by omega) (by omega) hb
    generalize hK : k + 1 + 1 + 1 + 1 + 1 + 1 * ((ys[i]).2.2.2.1.length : Int) = K at m0
    have b0 : N.add .i64 K 1 = K + 1 := add_id (by omega) (by omega)
    have b1 : N.add .i64 (K + 1) 1 = K + 1 + 1 := add_id (by omega) (by omega)
    have b2 : N.add .i64 (K + 1 + 1) 1 = K + 1 + 1 + 1 := add_id (by omega) (by omega)
    have e : k + (8 + ((ys[i]).2.2.2.1.length : Int)) = K + 1 + 1 + 1 := by omega
    simp only [ite_if, let_eq, set_length, List.length_set, set_set, rd_set hi, lt_d, len_d, cond_dec, i0, i1, if_true, a0, a1, a2, a3, a4, rd_at ys i hi, m0, bind_some', b0, b1, b2, next_id hi (by omega), e]
    rw [set_at]
    unfold mkCaptureS
    rw [hK]
  · simp only [lt_d, len_d, cond_dec]; rw [if_neg (by omega)]

end D
end Go.Sh
set_option linter.unusedVariables false
set_option linter.unusedSimpArgs false
set_option synthInstance.maxSize 100000
set_option maxHeartbeats 4000000
namespace Go.Sh
open Go Data
namespace D
/-! ## Containers: marks -/
def wContainer (s : List Op) (e : List Entry) (c : List Capture) : Int := 4 * s.length + 5 * e.length + sumW wCaptureS c
theorem wContainer_pos (s : List Op) (e : List Entry) (c : List Capture) : 0 ≤ wContainer s e c := by
  have := sumW_nonneg wCaptureS_pos c
  unfold wContainer; omega
theorem wContainer_le {s : List Op} {e : List Entry} {c : List Capture} (hs : ok s) (he : ok e) (hc : ok c) : wContainer s e c ≤ 2000000 * 1048576 + 9 * 1048576 := by
  have := hs.1; have := he.1; have := wCaptureS_le hc
  unfold wContainer; omega
/-! ## What a disk's index tells -/
def wContainerS (c : Container) : Int := wContainer c.1 c.2.1 c.2.2.1 + 1
def mkContainerS (k : Int) (c : Container) : Container := (markL mkOpS 4 c.1 k, markL mkEntryS 5 c.2.1 (k + 4 * c.1.length), markW mkCaptureS wCaptureS c.2.2.1 (k + 4 * c.1.length + 5 * c.2.1.length), k + wContainer c.1 c.2.1 c.2.2.1)
theorem wContainerS_pos (c : Container) : 0 ≤ wContainerS c := by
  have := wContainer_pos c.1 c.2.1 c.2.2.1
  unfold wContainerS; omega
theorem wContainerS_le {x : List Container} (h : ok x) : sumW wContainerS x ≤ (2000000 * 1048576 + 9 * 1048576 + 1) * 1048576 := by
  have h1 := sumW_le (we := wContainerS) (m := 2000000 * 1048576 + 9 * 1048576 + 1) x fun c hc => by
    have := wContainer_le (h.2 c hc).1 (h.2 c hc).2.1 (h.2 c hc).2.2.1
    unfold wContainerS; omega
  have := h.1
  omega
theorem laws_markContainerS_is {x : List Container} {k : Int} (h0 : 0 ≤ k) (hk : k ≤ 2500000000000000000) (h : ok x) : laws_markContainerS x k = some (k + sumW wContainerS x, markW mkContainerS wContainerS x k) := by
  have hs := wContainerS_le h
  refine mark_loopW (we := wContainerS) (B := 6000000000000000000) (mk := mkContainerS) (P := ok) wContainerS_pos (fun k i ys hi h0 h1 hl hp => ?_) (fun k ys => ?_) h0 (by omega) h.1 h.2
  · have i0 : (0 : Int) ≤ (i : Int) := by omega
    have i1 : (i : Int) < (ys.length : Int) := by omega
    have p1 := hp.1.1; have p2 := hp.2.1.1; have p3 := sumW_nonneg wCaptureS_pos (ys[i]).2.2.1; have p4 := wCaptureS_le hp.2.2.1
    unfold wContainerS wContainer at h1 ⊢
    have m0 := laws_markOpS_is (x := (ys[i]).1) (k := k) (by omega) (by omega) hp.1
    have m1 := laws_markEntryS_is (x := (ys[i]).2.1) (k := k + 4 * (ys[i]).1.length) (by omega) (by omega) hp.2.1
    have m2 := laws_markCaptureS_is (x := (ys[i]).2.2.1) (k := k + 4 * (ys[i]).1.length + 5 * (ys[i]).2.1.length) (by omega) (by omega) hp.2.2.1
    have a0 : N.add .i64 (k + 4 * ((ys[i]).1.length : Int) + 5 * ((ys[i]).2.1.length : Int) + sumW wCaptureS (ys[i]).2.2.1) 1 = k + 4 * ((ys[i]).1.length : Int) + 5 * ((ys[i]).2.1.length : Int) + sumW wCaptureS (ys[i]).2.2.1 + 1 := add_id (by omega) (by omega)
    have e : k + (4 * ((ys[i]).1.length : Int) + 5 * ((ys[i]).2.1.length : Int) + sumW wCaptureS (ys[i]).2.2.1 + 1) = k + 4 * ((ys[i]).1.length : Int) + 5 * ((ys[i]).2.1.length : Int) + sumW wCaptureS (ys[i]).2.2.1 + 1 := by omega
    simp only [ite_if, let_eq, set_length, List.length_set, set_set, rd_set hi, lt_d, len_d, cond_dec, i0, i1, if_true, rd_at ys i hi, m0, m1, m2, bind_some', a0, next_id hi (by omega), e]
    rw [set_at]
    unfold mkContainerS wContainer
    simp only [Int.add_assoc]
  · simp only [lt_d, len_d, cond_dec]; rw [if_neg (by omega)]
def lookP (l : List Found) (a : Address) : List Found := l.flatMap fun f => if f.1 = a then [f] else []
theorem look_ok {l : List Found} (h : ok l) (a : Address) : ok (lookP l a) := by
  have : lookP l a = l.filter fun f => decide (f.1 = a) := by
    unfold lookP
    clear h
    induction l with
    | nil => rfl
    | cons c l ih => rw [List.flatMap_cons, ih, List.filter_cons]; by_cases hc : c.1 = a <;> simp [hc]
  rw [this]; exact h.sub List.filter_sublist
theorem addr3 (f a : Address) : N.both (N.eq f.1 a.1) (N.both (N.eq f.2.1 a.2.1) (N.eq f.2.2 a.2.2)) = decide (f = a) := by
  obtain ⟨f0, f1, f2⟩ := f; obtain ⟨a0, a1, a2⟩ := a
  simp only [eq_d, both_d, Prod.mk.injEq]
theorem spec_LookUp_is {d : Disk} (h : ok d) (a : Address) : spec_LookUp d a = some (lookP d.2.1 a) := by
  have hl := h.2.1.1
  refine loop_flat d.2.1 (fun f => if f.1 = a then [f] else []) (fun k hk => ?_) ?_
  · have h0 : (0 : Int) ≤ (k : Int) := by omega
    have h1 : (k : Int) < (d.2.1.length : Int) := by omega
    have h2 := take_flat_len (f := fun f : Found => if f.1 = a then [f] else []) (m := 1) (xs := d.2.1) (fun a _ => by split <;> simp) (Nat.le_of_lt hk)
    simp only [ite_if]; simp only [lt_d, len_d, h0, h1, if_true, rd_at d.2.1 k hk, addr3, cond_dec, next_id hk (by omega)]
    by_cases hc : (d.2.1[k]).1 = a
    · simp only [hc, if_true]
      rw [if_pos (fitsN (by show (List.flatMap _ (d.2.1.take k)).length + 1 ≤ 100000000; omega) (by omega))]; rfl
    · simp [hc]
  · simp only [lt_d, len_d, cond_dec]; rw [if_neg (by omega)]
theorem impl_LookUp_is {d : Disk} (h : ok d) (a : Address) : impl_LookUp d a = some (lookP d.2.1 a) := by
  have hl := h.2.1.1
  refine loop_flat d.2.1 (fun f => if f.1 = a then [f] else []) (fun k hk => ?_) ?_
  · have h0 : (0 : Int) ≤ (k : Int) := by omega
    have h1 : (k : Int) < (d.2.1.length : Int) := by omega
    have h2 := take_flat_len (f := fun f : Found => if f.1 = a then [f] else []) (m := 1) (xs := d.2.1) (fun a _ => by split <;> simp) (Nat.le_of_lt hk)
    simp only [ite_if]; simp only [lt_d, len_d, h0, h1, if_true, rd_at d.2.1 k hk, addr3, cond_dec, next_id hk (by omega)]
    by_cases hc : (d.2.1[k]).1 = a
    · simp only [hc, if_true]
      rw [if_pos (fitsN (by show (List.flatMap _ (d.2.1.take k)).length + 1 ≤ 100000000; omega) (by omega))]; rfl
    · simp [hc]
  · simp only [lt_d, len_d, cond_dec]; rw [if_neg (by omega)]
theorem FnExactLookUp_true (x : Disk) (y : Address) (hx : bd x) (_ : bd y) : laws_FnExactLookUp x y = some true := by
  unfold laws_FnExactLookUp
  obtain ⟨s, e, hs⟩ := laws_szDisk_is x 1048576 hx (by omega) (by omega)
  rw [e, bind_some', lt_d, cond_dec]
  rcases hs with hs | ⟨hk, h0, h1⟩
  · rw [if_pos hs]
  rw [if_neg (by omega)]
  have hr := look_ok hk.2.1 y
  have w1 := wContainerS_le hk.1; have w2 := wContainerS_le hk.2.2
  have p1 := sumW_nonneg wContainerS_pos x.1; have p2 := sumW_nonneg wContainerS_pos x.2.2
  have hl := hk.2.1.1; have hrl := hr.1
  have hm : laws_markDisk x.1 x.2.1 x.2.2 1 = some (1 + sumW wContainerS x.1 + 6 * x.2.1.length + sumW wContainerS x.2.2, markW mkContainerS wContainerS x.1 1, markL mkFoundS 6 x.2.1 (1 + sumW wContainerS x.1), markW mkContainerS wContainerS x.2.2 (1 + sumW wContainerS x.1 + 6 * x.2.1.length)) := by
    unfold laws_markDisk
    rw [laws_markContainerS_is (by omega) (by omega) hk.1, bind_some', laws_markFoundS_is (by omega) (by omega) hk.2.1, bind_some', laws_markContainerS_is (by omega) (by omega) hk.2.2, bind_some']
  simp only [laws_toDisk_is _ hk, show ∀ x, laws_toAddress x = some x from fun _ => rfl, bind_some', spec_LookUp_is hk, impl_LookUp_is hk, laws_eqFoundS_is _ _ hr, laws_eqDisk_is _ _ hk, hm, laws_markFoundS_is (k := 1) (by omega) (by omega) hr, laws_heldFoundS_is (k := 1) (by omega) (by omega) hr, ne_d, neB_d, not_d, lt_d, cond_dec]
  have e1 : ¬ (1 + sumW wContainerS x.1 + 6 * (x.2.1.length : Int) + sumW wContainerS x.2.2 < 0) := by omega
  have e2 : ¬ (1 + 6 * ((lookP x.2.1 y).length : Int) < 0) := by omega
  simp [e1, e2]
end D
end Go.Sh
set_option linter.unusedVariables false
set_option linter.unusedSimpArgs false
set_option synthInstance.maxSize 100000
set_option maxHeartbeats 4000000
namespace Go.Sh
open Go Data
namespace D
end D
end Go.Sh
set_option linter.unusedVariables false
set_option linter.unusedSimpArgs false
set_option synthInstance.maxSize 100000
set_option maxHeartbeats 4000000
namespace Go.Sh
open Go Data
namespace D
end D
end Go.Sh
set_option linter.unusedVariables false
set_option linter.unusedSimpArgs false
set_option synthInstance.maxSize 100000
set_option maxHeartbeats 4000000
namespace Go.Sh
open Go Data
namespace D
end D
end Go.Sh
