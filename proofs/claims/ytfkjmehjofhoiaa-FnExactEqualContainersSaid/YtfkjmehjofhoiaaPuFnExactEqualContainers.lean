/- The native forms of the functions that FnExactEqualContainers reaches, and their pure laws: FnExactEqualContainers is true for every input of bounded parts. No condition beyond the bounds that every input keeps. -/
import Derived.Test.YtfkjmehjofhoiaaSh8
set_option linter.unusedVariables false
set_option maxRecDepth 100000
set_option maxHeartbeats 4000000
namespace Go.Sh
open Go
namespace N
def nostr : ByteArray := ByteArray.empty
def lit (l : List UInt8) : ByteArray := ⟨l.toArray⟩
end N
namespace D
abbrev Address : Type := Int × Int × Int
abbrev Resource : Type := Int × (List Int) × Address
abbrev Capture : Type := Address × Int × Resource
abbrev Entry : Type := Int × Address × Int
abbrev Op : Type := Int × Int × Int × Int
abbrev Container : Type := (List Op) × (List Entry) × (List Capture) × Int
noncomputable def laws_toIntS (x0 : List Int) : Option (List Int) :=
  N.ite (0 ≤ N.len x0)
    (
      N.ite (N.room (N.len x0) 8)
        (
          loopF (fun (s1 : Int × List Int) =>
              N.cond (N.lt s1.1 (N.len x0))
                (
                  N.ite (0 ≤ s1.1)
                    (
                      N.ite (s1.1 < N.len x0)
                        (
                          N.ite (0 ≤ s1.1)
                            (
                              N.ite (s1.1 < N.len s1.2)
                                (some (.inl (N.add .i64 s1.1 1, N.set s1.2 s1.1 (N.rd x0 s1.1 0))))
                                none)
                            none)
                        none)
                    none)
                (some (.inr s1.2)))
            (0, N.rep (N.len x0) 0))
        none)
    none

noncomputable def laws_eqIntS (x0 : List Int) (x1 : List Int) : Option (Bool) :=
  N.cond (N.ne (N.len x0) (N.len x1))
    (some false)
    (
      loopF (fun (s1 : Int) =>
          N.cond (N.lt s1 (N.len x0))
            (
              N.ite (0 ≤ s1)
                (
                  N.ite (s1 < N.len x0)
                    (
                      N.ite (0 ≤ s1)
                        (
                          N.ite (s1 < N.len x1)
                            (
                              N.cond (N.ne (N.rd x0 s1 0) (N.rd x1 s1 0))
                                (some (.inr false))
                                (some (.inl (N.add .i64 s1 1))))
                            none)
                        none)
                    none)
                none)
            (some (.inr true)))
        0)

noncomputable def laws_szIntS (x0 : List Int) (x1 : Int) : Option (Int) :=
  N.cond (N.lt (N.sub .i64 x1 (N.len x0)) 0)
    (some (-1))
    (some (N.sub .i64 x1 (N.len x0)))

noncomputable def laws_szResource (x0 : Resource) (x1 : Int) : Option (Int) :=
  N.bind (laws_szIntS x0.2.1 x1) fun r1 =>
    N.cond (N.lt r1 0)
      (some (-1))
      (some r1)

noncomputable def laws_szCapture (x0 : Capture) (x1 : Int) : Option (Int) :=
  N.bind (laws_szResource x0.2.2 x1) fun r1 =>
    N.cond (N.lt r1 0)
      (some (-1))
      (some r1)

noncomputable def laws_toAddress (x0 : Address) : Option (Address) :=
  some x0

noncomputable def laws_toResource (x0 : Resource) : Option (Resource) :=
  N.bind (laws_toIntS x0.2.1) fun r1 =>
    N.bind (laws_toAddress x0.2.2) fun r2 =>
      some (x0.1, r1, r2)

noncomputable def laws_toCapture (x0 : Capture) : Option (Capture) :=
  N.bind (laws_toAddress x0.1) fun r1 =>
    N.bind (laws_toResource x0.2.2) fun r2 =>
      some (r1, x0.2.1, r2)

noncomputable def laws_eqAddress (x0 : Address) (x1 : Address) : Option (Bool) :=
  N.cond (N.ne x0.1 x1.1)
    (some false)
    (
      N.cond (N.ne x0.2.1 x1.2.1)
        (some false)
        (
          N.cond (N.ne x0.2.2 x1.2.2)
            (some false)
            (some true)))

noncomputable def laws_eqResource (x0 : Resource) (x1 : Resource) : Option (Bool) :=
  N.cond (N.ne x0.1 x1.1)
    (some false)
    (
      N.bind (laws_eqIntS x0.2.1 x1.2.1) fun r1 =>
        N.cond (N.not r1)
          (some false)
          (
            N.bind (laws_eqAddress x0.2.2 x1.2.2) fun r2 =>
              N.cond (N.not r2)
                (some false)
                (some true)))

noncomputable def laws_eqCapture (x0 : Capture) (x1 : Capture) : Option (Bool) :=
  N.bind (laws_eqAddress x0.1 x1.1) fun r1 =>
    N.cond (N.not r1)
      (some false)
      (
        N.cond (N.ne x0.2.1 x1.2.1)
          (some false)
          (
            N.bind (laws_eqResource x0.2.2 x1.2.2) fun r2 =>
              N.cond (N.not r2)
                (some false)
                (some true)))

noncomputable def spec_EqualInts (x0 : List Int) (x1 : List Int) : Option (Bool) :=
  N.cond (N.ne (N.len x0) (N.len x1))
    (some false)
    (
      loopF (fun (s1 : Int) =>
          N.cond (N.lt s1 (N.len x0))
            (
              N.ite (0 ≤ s1)
                (
                  N.ite (s1 < N.len x0)
                    (
                      N.ite (0 ≤ s1)
                        (
                          N.ite (s1 < N.len x1)
                            (
                              N.cond (N.ne (N.rd x0 s1 0) (N.rd x1 s1 0))
                                (some (.inr false))
                                (some (.inl (N.add .i64 s1 1))))
                            none)
                        none)
                    none)
                none)
            (some (.inr true)))
        0)

noncomputable def slices_Equal_int (x0 : List Int) (x1 : List Int) : Option (Bool) :=
  N.cond (N.ne (N.len x0) (N.len x1))
    (some false)
    (
      loopF (fun (s1 : Int) =>
          N.cond (N.lt s1 (N.len x0))
            (
              N.ite (0 ≤ s1)
                (
                  N.ite (s1 < N.len x0)
                    (
                      N.ite (0 ≤ s1)
                        (
                          N.ite (s1 < N.len x1)
                            (
                              N.cond (N.ne (N.rd x0 s1 0) (N.rd x1 s1 0))
                                (some (.inr false))
                                (some (.inl (N.add .i64 s1 1))))
                            none)
                        none)
                    none)
                none)
            (some (.inr true)))
        0)

noncomputable def laws_szEntryS (x0 : List Entry) (x1 : Int) : Option (Int) :=
  N.cond (N.lt (N.sub .i64 x1 (N.len x0)) 0)
    (some (-1))
    (some (N.sub .i64 x1 (N.len x0)))

noncomputable def laws_toEntry (x0 : Entry) : Option (Entry) :=
  N.bind (laws_toAddress x0.2.1) fun r1 =>
    some (x0.1, r1, x0.2.2)

noncomputable def laws_toEntryS (x0 : List Entry) : Option (List Entry) :=
  N.ite (0 ≤ N.len x0)
    (
      N.ite (N.room (N.len x0) 40)
        (
          loopF (fun (s1 : Int × List Entry) =>
              N.cond (N.lt s1.1 (N.len x0))
                (
                  N.ite (0 ≤ s1.1)
                    (
                      N.ite (s1.1 < N.len x0)
                        (
                          N.bind (laws_toEntry (N.rd x0 s1.1 (0, (0, 0, 0), 0))) fun r1 =>
                            N.ite (0 ≤ s1.1)
                              (
                                N.ite (s1.1 < N.len s1.2)
                                  (some (.inl (N.add .i64 s1.1 1, N.set s1.2 s1.1 r1)))
                                  none)
                              none)
                        none)
                    none)
                (some (.inr s1.2)))
            (0, N.rep (N.len x0) (0, (0, 0, 0), 0)))
        none)
    none

noncomputable def laws_szOpS (x0 : List Op) (x1 : Int) : Option (Int) :=
  N.cond (N.lt (N.sub .i64 x1 (N.len x0)) 0)
    (some (-1))
    (some (N.sub .i64 x1 (N.len x0)))

noncomputable def laws_toOp (x0 : Op) : Option (Op) :=
  some x0

noncomputable def laws_toOpS (x0 : List Op) : Option (List Op) :=
  N.ite (0 ≤ N.len x0)
    (
      N.ite (N.room (N.len x0) 32)
        (
          loopF (fun (s1 : Int × List Op) =>
              N.cond (N.lt s1.1 (N.len x0))
                (
                  N.ite (0 ≤ s1.1)
                    (
                      N.ite (s1.1 < N.len x0)
                        (
                          N.bind (laws_toOp (N.rd x0 s1.1 (0, 0, 0, 0))) fun r1 =>
                            N.ite (0 ≤ s1.1)
                              (
                                N.ite (s1.1 < N.len s1.2)
                                  (some (.inl (N.add .i64 s1.1 1, N.set s1.2 s1.1 r1)))
                                  none)
                              none)
                        none)
                    none)
                (some (.inr s1.2)))
            (0, N.rep (N.len x0) (0, 0, 0, 0)))
        none)
    none

noncomputable def laws_szCaptureS (x0 : List Capture) (x1 : Int) : Option (Int) :=
  N.cond (N.lt (N.sub .i64 x1 (N.len x0)) 0)
    (some (-1))
    (
      loopF (fun (s1 : Int × Int) =>
          N.cond (N.lt s1.2 (N.len x0))
            (
              N.ite (0 ≤ s1.2)
                (
                  N.ite (s1.2 < N.len x0)
                    (
                      N.bind (laws_szCapture (N.rd x0 s1.2 ((0, 0, 0), 0, (0, [], (0, 0, 0)))) s1.1) fun r1 =>
                        N.cond (N.lt r1 0)
                          (some (.inr (-1)))
                          (some (.inl (r1, N.add .i64 s1.2 1))))
                    none)
                none)
            (some (.inr s1.1)))
        (N.sub .i64 x1 (N.len x0), 0))

noncomputable def laws_toCaptureS (x0 : List Capture) : Option (List Capture) :=
  N.ite (0 ≤ N.len x0)
    (
      N.ite (N.room (N.len x0) 88)
        (
          loopF (fun (s1 : Int × List Capture) =>
              N.cond (N.lt s1.1 (N.len x0))
                (
                  N.ite (0 ≤ s1.1)
                    (
                      N.ite (s1.1 < N.len x0)
                        (
                          N.bind (laws_toCapture (N.rd x0 s1.1 ((0, 0, 0), 0, (0, [], (0, 0, 0))))) fun r1 =>
                            N.ite (0 ≤ s1.1)
                              (
                                N.ite (s1.1 < N.len s1.2)
                                  (some (.inl (N.add .i64 s1.1 1, N.set s1.2 s1.1 r1)))
                                  none)
                              none)
                        none)
                    none)
                (some (.inr s1.2)))
            (0, N.rep (N.len x0) ((0, 0, 0), 0, (0, [], (0, 0, 0)))))
        none)
    none

noncomputable def spec_EqualResources (x0 : Resource) (x1 : Resource) : Option (Bool) :=
  N.cond (N.eq x0.1 x1.1)
    (
      N.cond (N.both (N.eq x0.2.2.1 x1.2.2.1) (N.both (N.eq x0.2.2.2.1 x1.2.2.2.1) (N.eq x0.2.2.2.2 x1.2.2.2.2)))
        (
          N.bind (spec_EqualInts x0.2.1 x1.2.1) fun r1 =>
            some r1)
        (some false))
    (some false)

noncomputable def spec_l15Same (x0 : Capture) (x1 : Capture) : Option (Bool) :=
  N.cond (N.both (N.eq x0.1.1 x1.1.1) (N.both (N.eq x0.1.2.1 x1.1.2.1) (N.eq x0.1.2.2 x1.1.2.2)))
    (
      N.cond (N.eq x0.2.1 x1.2.1)
        (
          N.bind (spec_EqualResources x0.2.2 x1.2.2) fun r1 =>
            some r1)
        (some false))
    (some false)

noncomputable def spec_EqualCaptures (x0 : List Capture) (x1 : List Capture) : Option (Bool) :=
  N.cond (N.ne (N.len x0) (N.len x1))
    (some false)
    (
      loopF (fun (s1 : Int) =>
          N.cond (N.lt s1 (N.len x0))
            (
              N.ite (0 ≤ s1)
                (
                  N.ite (s1 < N.len x0)
                    (
                      N.ite (0 ≤ s1)
                        (
                          N.ite (s1 < N.len x1)
                            (
                              N.bind (spec_l15Same (N.rd x0 s1 ((0, 0, 0), 0, (0, [], (0, 0, 0)))) (N.rd x1 s1 ((0, 0, 0), 0, (0, [], (0, 0, 0))))) fun r1 =>
                                N.cond (N.not r1)
                                  (some (.inr false))
                                  (some (.inl (N.add .i64 s1 1))))
                            none)
                        none)
                    none)
                none)
            (some (.inr true)))
        0)

noncomputable def impl_EqualResources (x0 : Resource) (x1 : Resource) : Option (Bool) :=
  N.cond (N.eq x0.1 x1.1)
    (
      N.cond (N.both (N.eq x0.2.2.1 x1.2.2.1) (N.both (N.eq x0.2.2.2.1 x1.2.2.2.1) (N.eq x0.2.2.2.2 x1.2.2.2.2)))
        (
          N.bind (slices_Equal_int x0.2.1 x1.2.1) fun r1 =>
            some r1)
        (some false))
    (some false)

noncomputable def impl_sameCapture (x0 : Capture) (x1 : Capture) : Option (Bool) :=
  N.cond (N.both (N.eq x0.1.1 x1.1.1) (N.both (N.eq x0.1.2.1 x1.1.2.1) (N.eq x0.1.2.2 x1.1.2.2)))
    (
      N.cond (N.eq x0.2.1 x1.2.1)
        (
          N.bind (impl_EqualResources x0.2.2 x1.2.2) fun r1 =>
            some r1)
        (some false))
    (some false)

noncomputable def slices_EqualFunc_Capture_impl_sameCapture (x0 : List Capture) (x1 : List Capture) : Option (Bool) :=
  N.cond (N.ne (N.len x0) (N.len x1))
    (some false)
    (
      loopF (fun (s1 : Int) =>
          N.cond (N.lt s1 (N.len x0))
            (
              N.ite (0 ≤ s1)
                (
                  N.ite (s1 < N.len x0)
                    (
                      N.ite (0 ≤ s1)
                        (
                          N.ite (s1 < N.len x1)
                            (
                              N.bind (impl_sameCapture (N.rd x0 s1 ((0, 0, 0), 0, (0, [], (0, 0, 0)))) (N.rd x1 s1 ((0, 0, 0), 0, (0, [], (0, 0, 0))))) fun r1 =>
                                N.cond (N.not r1)
                                  (some (.inr false))
                                  (some (.inl (N.add .i64 s1 1))))
                            none)
                        none)
                    none)
                none)
            (some (.inr true)))
        0)

noncomputable def impl_EqualCaptures (x0 : List Capture) (x1 : List Capture) : Option (Bool) :=
  N.bind (slices_EqualFunc_Capture_impl_sameCapture x0 x1) fun r1 =>
    some r1

noncomputable def laws_eqCaptureS (x0 : List Capture) (x1 : List Capture) : Option (Bool) :=
  N.cond (N.ne (N.len x0) (N.len x1))
    (some false)
    (
      loopF (fun (s1 : Int) =>
          N.cond (N.lt s1 (N.len x0))
            (
              N.ite (0 ≤ s1)
                (
                  N.ite (s1 < N.len x0)
                    (
                      N.ite (0 ≤ s1)
                        (
                          N.ite (s1 < N.len x1)
                            (
                              N.bind (laws_eqCapture (N.rd x0 s1 ((0, 0, 0), 0, (0, [], (0, 0, 0)))) (N.rd x1 s1 ((0, 0, 0), 0, (0, [], (0, 0, 0))))) fun r1 =>
                                N.cond (N.not r1)
                                  (some (.inr false))
                                  (some (.inl (N.add .i64 s1 1))))
                            none)
                        none)
                    none)
                none)
            (some (.inr true)))
        0)

noncomputable def laws_szContainer (x0 : Container) (x1 : Int) : Option (Int) :=
  N.bind (laws_szOpS x0.1 x1) fun r1 =>
    N.cond (N.lt r1 0)
      (some (-1))
      (
        N.bind (laws_szEntryS x0.2.1 r1) fun r2 =>
          N.cond (N.lt r2 0)
            (some (-1))
            (
              N.bind (laws_szCaptureS x0.2.2.1 r2) fun r3 =>
                N.cond (N.lt r3 0)
                  (some (-1))
                  (some r3)))

noncomputable def laws_toContainer (x0 : Container) : Option (Container) :=
  N.bind (laws_toOpS x0.1) fun r1 =>
    N.bind (laws_toEntryS x0.2.1) fun r2 =>
      N.bind (laws_toCaptureS x0.2.2.1) fun r3 =>
        some (r1, r2, r3, x0.2.2.2)

noncomputable def spec_ScriptInts (x0 : List Op) : Option (List Int) :=
  loopF (fun (s1 : List Int × Int) =>
      N.cond (N.lt s1.2 (N.len x0))
        (
          N.ite (0 ≤ s1.2)
            (
              N.ite (s1.2 < N.len x0)
                (
                  N.ite (0 ≤ s1.2)
                    (
                      N.ite (s1.2 < N.len x0)
                        (
                          N.ite (0 ≤ s1.2)
                            (
                              N.ite (s1.2 < N.len x0)
                                (
                                  N.ite (0 ≤ s1.2)
                                    (
                                      N.ite (s1.2 < N.len x0)
                                        (
                                          N.ite (N.fits s1.1 [(N.rd x0 s1.2 (0, 0, 0, 0)).1, (N.rd x0 s1.2 (0, 0, 0, 0)).2.1, (N.rd x0 s1.2 (0, 0, 0, 0)).2.2.1, (N.rd x0 s1.2 (0, 0, 0, 0)).2.2.2] 8)
                                            (some (.inl (N.app s1.1 [(N.rd x0 s1.2 (0, 0, 0, 0)).1, (N.rd x0 s1.2 (0, 0, 0, 0)).2.1, (N.rd x0 s1.2 (0, 0, 0, 0)).2.2.1, (N.rd x0 s1.2 (0, 0, 0, 0)).2.2.2], N.add .i64 s1.2 1)))
                                            none)
                                        none)
                                    none)
                                none)
                            none)
                        none)
                    none)
                none)
            none)
        (some (.inr s1.1)))
    ([], 0)

noncomputable def spec_EqualEntries (x0 : List Entry) (x1 : List Entry) : Option (Bool) :=
  N.cond (N.ne (N.len x0) (N.len x1))
    (some false)
    (
      loopF (fun (s1 : Int) =>
          N.cond (N.lt s1 (N.len x0))
            (
              N.ite (0 ≤ s1)
                (
                  N.ite (s1 < N.len x0)
                    (
                      N.ite (0 ≤ s1)
                        (
                          N.ite (s1 < N.len x1)
                            (
                              N.cond (N.not (N.both (N.eq ((N.rd x0 s1 (0, (0, 0, 0), 0)).1) ((N.rd x1 s1 (0, (0, 0, 0), 0)).1)) (N.both (N.eq (((N.rd x0 s1 (0, (0, 0, 0), 0)).2.1).1) (((N.rd x1 s1 (0, (0, 0, 0), 0)).2.1).1)) (N.both (N.eq (((N.rd x0 s1 (0, (0, 0, 0), 0)).2.1).2.1) (((N.rd x1 s1 (0, (0, 0, 0), 0)).2.1).2.1)) (N.both (N.eq (((N.rd x0 s1 (0, (0, 0, 0), 0)).2.1).2.2) (((N.rd x1 s1 (0, (0, 0, 0), 0)).2.1).2.2)) (N.eq ((N.rd x0 s1 (0, (0, 0, 0), 0)).2.2) ((N.rd x1 s1 (0, (0, 0, 0), 0)).2.2)))))))
                                (some (.inr false))
                                (some (.inl (N.add .i64 s1 1))))
                            none)
                        none)
                    none)
                none)
            (some (.inr true)))
        0)

noncomputable def spec_EqualContainers (x0 : Container) (x1 : Container) : Option (Bool) :=
  N.cond (N.eq x0.2.2.2 x1.2.2.2)
    (
      N.bind (spec_ScriptInts x0.1) fun r1 =>
        N.bind (spec_ScriptInts x1.1) fun r2 =>
          N.bind (spec_EqualInts r1 r2) fun r3 =>
            N.cond r3
              (
                N.bind (spec_EqualEntries x0.2.1 x1.2.1) fun r4 =>
                  N.cond r4
                    (
                      N.bind (spec_EqualCaptures x0.2.2.1 x1.2.2.1) fun r5 =>
                        some r5)
                    (some false))
              (some false))
    (some false)

noncomputable def slices_Equal_Op (x0 : List Op) (x1 : List Op) : Option (Bool) :=
  N.cond (N.ne (N.len x0) (N.len x1))
    (some false)
    (
      loopF (fun (s1 : Int) =>
          N.cond (N.lt s1 (N.len x0))
            (
              N.ite (0 ≤ s1)
                (
                  N.ite (s1 < N.len x0)
                    (
                      N.ite (0 ≤ s1)
                        (
                          N.ite (s1 < N.len x1)
                            (
                              N.cond (N.not (N.both (N.eq ((N.rd x0 s1 (0, 0, 0, 0)).1) ((N.rd x1 s1 (0, 0, 0, 0)).1)) (N.both (N.eq ((N.rd x0 s1 (0, 0, 0, 0)).2.1) ((N.rd x1 s1 (0, 0, 0, 0)).2.1)) (N.both (N.eq ((N.rd x0 s1 (0, 0, 0, 0)).2.2.1) ((N.rd x1 s1 (0, 0, 0, 0)).2.2.1)) (N.eq ((N.rd x0 s1 (0, 0, 0, 0)).2.2.2) ((N.rd x1 s1 (0, 0, 0, 0)).2.2.2))))))
                                (some (.inr false))
                                (some (.inl (N.add .i64 s1 1))))
                            none)
                        none)
                    none)
                none)
            (some (.inr true)))
        0)

noncomputable def slices_Equal_Entry (x0 : List Entry) (x1 : List Entry) : Option (Bool) :=
  N.cond (N.ne (N.len x0) (N.len x1))
    (some false)
    (
      loopF (fun (s1 : Int) =>
          N.cond (N.lt s1 (N.len x0))
            (
              N.ite (0 ≤ s1)
                (
                  N.ite (s1 < N.len x0)
                    (
                      N.ite (0 ≤ s1)
                        (
                          N.ite (s1 < N.len x1)
                            (
                              N.cond (N.not (N.both (N.eq ((N.rd x0 s1 (0, (0, 0, 0), 0)).1) ((N.rd x1 s1 (0, (0, 0, 0), 0)).1)) (N.both (N.eq (((N.rd x0 s1 (0, (0, 0, 0), 0)).2.1).1) (((N.rd x1 s1 (0, (0, 0, 0), 0)).2.1).1)) (N.both (N.eq (((N.rd x0 s1 (0, (0, 0, 0), 0)).2.1).2.1) (((N.rd x1 s1 (0, (0, 0, 0), 0)).2.1).2.1)) (N.both (N.eq (((N.rd x0 s1 (0, (0, 0, 0), 0)).2.1).2.2) (((N.rd x1 s1 (0, (0, 0, 0), 0)).2.1).2.2)) (N.eq ((N.rd x0 s1 (0, (0, 0, 0), 0)).2.2) ((N.rd x1 s1 (0, (0, 0, 0), 0)).2.2)))))))
                                (some (.inr false))
                                (some (.inl (N.add .i64 s1 1))))
                            none)
                        none)
                    none)
                none)
            (some (.inr true)))
        0)

noncomputable def impl_EqualEntries (x0 : List Entry) (x1 : List Entry) : Option (Bool) :=
  N.bind (slices_Equal_Entry x0 x1) fun r1 =>
    some r1

noncomputable def impl_EqualContainers (x0 : Container) (x1 : Container) : Option (Bool) :=
  N.bind (slices_Equal_Op x0.1 x1.1) fun r1 =>
    N.cond r1
      (
        N.bind (impl_EqualEntries x0.2.1 x1.2.1) fun r2 =>
          N.cond r2
            (
              N.bind (impl_EqualCaptures x0.2.2.1 x1.2.2.1) fun r3 =>
                N.cond r3
                  (some (N.eq x0.2.2.2 x1.2.2.2))
                  (some false))
            (some false))
      (some false)

noncomputable def laws_eqOp (x0 : Op) (x1 : Op) : Option (Bool) :=
  N.cond (N.ne x0.1 x1.1)
    (some false)
    (
      N.cond (N.ne x0.2.1 x1.2.1)
        (some false)
        (
          N.cond (N.ne x0.2.2.1 x1.2.2.1)
            (some false)
            (
              N.cond (N.ne x0.2.2.2 x1.2.2.2)
                (some false)
                (some true))))

noncomputable def laws_eqOpS (x0 : List Op) (x1 : List Op) : Option (Bool) :=
  N.cond (N.ne (N.len x0) (N.len x1))
    (some false)
    (
      loopF (fun (s1 : Int) =>
          N.cond (N.lt s1 (N.len x0))
            (
              N.ite (0 ≤ s1)
                (
                  N.ite (s1 < N.len x0)
                    (
                      N.ite (0 ≤ s1)
                        (
                          N.ite (s1 < N.len x1)
                            (
                              N.bind (laws_eqOp (N.rd x0 s1 (0, 0, 0, 0)) (N.rd x1 s1 (0, 0, 0, 0))) fun r1 =>
                                N.cond (N.not r1)
                                  (some (.inr false))
                                  (some (.inl (N.add .i64 s1 1))))
                            none)
                        none)
                    none)
                none)
            (some (.inr true)))
        0)

noncomputable def laws_eqEntry (x0 : Entry) (x1 : Entry) : Option (Bool) :=
  N.cond (N.ne x0.1 x1.1)
    (some false)
    (
      N.bind (laws_eqAddress x0.2.1 x1.2.1) fun r1 =>
        N.cond (N.not r1)
          (some false)
          (
            N.cond (N.ne x0.2.2 x1.2.2)
              (some false)
              (some true)))

noncomputable def laws_eqEntryS (x0 : List Entry) (x1 : List Entry) : Option (Bool) :=
  N.cond (N.ne (N.len x0) (N.len x1))
    (some false)
    (
      loopF (fun (s1 : Int) =>
          N.cond (N.lt s1 (N.len x0))
            (
              N.ite (0 ≤ s1)
                (
                  N.ite (s1 < N.len x0)
                    (
                      N.ite (0 ≤ s1)
                        (
                          N.ite (s1 < N.len x1)
                            (
                              N.bind (laws_eqEntry (N.rd x0 s1 (0, (0, 0, 0), 0)) (N.rd x1 s1 (0, (0, 0, 0), 0))) fun r1 =>
                                N.cond (N.not r1)
                                  (some (.inr false))
                                  (some (.inl (N.add .i64 s1 1))))
                            none)
                        none)
                    none)
                none)
            (some (.inr true)))
        0)

noncomputable def laws_eqContainer (x0 : Container) (x1 : Container) : Option (Bool) :=
  N.bind (laws_eqOpS x0.1 x1.1) fun r1 =>
    N.cond (N.not r1)
      (some false)
      (
        N.bind (laws_eqEntryS x0.2.1 x1.2.1) fun r2 =>
          N.cond (N.not r2)
            (some false)
            (
              N.bind (laws_eqCaptureS x0.2.2.1 x1.2.2.1) fun r3 =>
                N.cond (N.not r3)
                  (some false)
                  (
                    N.cond (N.ne x0.2.2.2 x1.2.2.2)
                      (some false)
                      (some true))))

noncomputable def laws_FnExactEqualContainers (x0 : Container) (x1 : Container) : Option (Bool) :=
  N.bind (laws_szContainer x0 1048576) fun r1 =>
    N.cond (N.lt r1 0)
      (some true)
      (
        N.bind (laws_szContainer x1 r1) fun r2 =>
          N.cond (N.lt r2 0)
            (some true)
            (
              N.bind (laws_toContainer x0) fun r3 =>
                N.bind (laws_toContainer x1) fun r4 =>
                  N.bind (spec_EqualContainers r3 r4) fun r5 =>
                    N.bind (laws_toContainer x0) fun r6 =>
                      N.bind (laws_toContainer x1) fun r7 =>
                        N.bind (impl_EqualContainers r6 r7) fun r8 =>
                          N.cond (N.neB r8 r5)
                            (some false)
                            (
                              N.bind (laws_toContainer x0) fun r9 =>
                                N.bind (laws_eqContainer r6 r9) fun r10 =>
                                  N.cond (N.not r10)
                                    (some false)
                                    (
                                      N.bind (laws_toContainer x1) fun r11 =>
                                        N.bind (laws_eqContainer r7 r11) fun r12 =>
                                          N.cond (N.not r12)
                                            (some false)
                                            (some true)))))

end D
end Go.Sh
set_option linter.unusedVariables false
set_option linter.unusedSimpArgs false
namespace Go.Sh
open Go
/-! ## Loops -/
theorem loopN_det {S R : Type} {step : S → Option (S ⊕ R)} : ∀ {n m : Nat} {s : S} {a b : R}, loopN step n s = some a → loopN step m s = some b → a = b
  | 0, _, _, _, _, h, _ => by simp [loopN] at h
  | _ + 1, 0, _, _, _, _, h => by simp [loopN] at h
  | n + 1, m + 1, s, a, b, h1, h2 => by
    simp only [loopN] at h1 h2
    split at h1
    · cases h1
    · rename_i s' hs; rw [hs] at h2; exact loopN_det h1 h2
    · rename_i r hr; rw [hr] at h2; simp at h1 h2; rw [← h1, ← h2]

theorem loopF_of {S R : Type} {step : S → Option (S ⊕ R)} {s : S} {n : Nat} {r : R} (h : loopN step n s = some r) : loopF step s = some r := by
  have hx : ∃ n r, loopN step n s = some r := ⟨n, r, h⟩
  unfold loopF
  rw [dif_pos hx]
  obtain ⟨m, hm⟩ := Classical.choose_spec hx |> fun h => (⟨_, Classical.choose_spec h⟩ : ∃ v, loopN step (Classical.choose hx) s = some v)
  have := Classical.choose_spec (Classical.choose_spec hx)
  rw [loopN_det this h]

theorem loopF_inr {S R : Type} {step : S → Option (S ⊕ R)} {s : S} {r : R} (h : step s = some (.inr r)) : loopF step s = some r :=
  loopF_of (n := 1) (by simp [loopN, h])

theorem loopF_inl {S R : Type} {step : S → Option (S ⊕ R)} {s s' : S} (h : step s = some (.inl s')) : loopF step s = loopF step s' := by
  by_cases hx : ∃ n r, loopN step n s' = some r
  · obtain ⟨n, r, hn⟩ := hx
    rw [loopF_of hn, loopF_of (n := n + 1) (r := r) (by simp [loopN, h, hn])]
  · have hy : ¬ ∃ n r, loopN step n s = some r := by
      rintro ⟨n, r, hn⟩
      cases n with
      | zero => simp [loopN] at hn
      | succ n => simp only [loopN, h] at hn; exact hx ⟨n, r, hn⟩
    unfold loopF
    rw [dif_neg hx, dif_neg hy]

/-- counting up to n -/
theorem loop_upto {σ S R : Type} {step : S → Option (S ⊕ R)} (n : Nat) (emb : Nat → σ → S) (st : Nat → σ) (r : R)
    (hstep : ∀ k < n, step (emb k (st k)) = some (.inl (emb (k + 1) (st (k + 1))))) (hend : step (emb n (st n)) = some (.inr r)) : loopF step (emb 0 (st 0)) = some r := by
  have key : ∀ (m k : Nat), k + m = n → loopF step (emb k (st k)) = some r := by
    intro m
    induction m with
    | zero => intro k hk; have : k = n := by omega
              subst this; exact loopF_inr hend
    | succ m ih => intro k hk; rw [loopF_inl (hstep k (by omega))]; exact ih (k + 1) (by omega)
  exact key n 0 (by omega)

/-! ## Words -/
section
variable {R α β : Type}
@[simp] theorem bind_some' (x : β) (f : β → Option R) : N.bind (some x) f = f x := rfl
@[simp] theorem cond_true (x y : Option R) : N.cond true x y = x := rfl
@[simp] theorem cond_false (x y : Option R) : N.cond false x y = y := rfl
theorem cond_dec (p : Prop) [Decidable p] (x y : Option R) : N.cond (decide p) x y = if p then x else y := by unfold N.cond; by_cases h : p <;> simp [h]
theorem ite_if (c : Prop) [Decidable c] (x y : Option R) : N.ite c x y = if c then x else y := rfl
theorem nite_pos {c : Prop} [Decidable c] (h : c) (x y : Option R) : N.ite c x y = x := if_pos h
theorem lt_d (a b : Int) : N.lt a b = decide (a < b) := rfl
theorem eq_d (a b : Int) : N.eq a b = decide (a = b) := rfl
theorem ne_d (a b : Int) : N.ne a b = decide (¬ a = b) := by
  unfold N.ne; by_cases h : a = b <;> simp [h]
theorem len_d (xs : List α) : N.len xs = (xs.length : Int) := by simp [N.len]
theorem rd_at (xs : List α) (k : Nat) (hk : k < xs.length) (d : α) : N.rd xs (k : Int) d = xs[k] := by
  simp [N.rd, List.getD, hk]
theorem wrap_id {n : Int} (h1 : -9223372036854775808 ≤ n) (h2 : n < 9223372036854775808) : IntKind.i64.wrap n = n := by
  have e1 : ((2 : Int) ^ IntKind.i64.bits) = 18446744073709551616 := by decide
  have e2 : ((2 : Int) ^ (IntKind.i64.bits - 1)) = 9223372036854775808 := by decide
  have e3 : IntKind.i64.signed = true := rfl
  unfold IntKind.wrap
  rw [e1, e2, e3]
  simp only [Bool.true_and, decide_eq_true_eq]
  split <;> omega
theorem add_id {a b : Int} (h1 : -9223372036854775808 ≤ a + b) (h2 : a + b < 9223372036854775808) : N.add .i64 a b = a + b := wrap_id h1 h2
theorem sub_id {a b : Int} (h1 : -9223372036854775808 ≤ a - b) (h2 : a - b < 9223372036854775808) : N.sub .i64 a b = a - b := wrap_id h1 h2
theorem next_id {k n : Nat} (hk : k < n) (hn : (n : Int) < 9223372036854775808) : N.add .i64 (k : Int) 1 = ((k + 1 : Nat) : Int) := by
  rw [add_id (by omega) (by omega)]; omega
end
end Go.Sh
set_option linter.unusedVariables false
set_option linter.unusedSimpArgs false
namespace Go.Sh
open Go
/-! ## Bounds of data -/
class Data (α : Type) where
  bd : α → Prop
  ok : α → Prop
  le : ∀ x, ok x → bd x
class Flat (α : Type) [Data α] where
  fl : ∀ x : α, Data.bd x → Data.ok x
open Data
instance : Data Int := ⟨fun x => -9223372036854775808 ≤ x ∧ x < 9223372036854775808, fun x => -9223372036854775808 ≤ x ∧ x < 9223372036854775808, fun _ h => h⟩
instance : Data Bool := ⟨fun _ => True, fun _ => True, fun _ h => h⟩
instance : Data ByteArray := ⟨fun s => s.size ≤ 4611686018427387904, fun s => s.size ≤ 4611686018427387904, fun _ h => h⟩
instance {α β : Type} [Data α] [Data β] : Data (α × β) := ⟨fun x => bd x.1 ∧ bd x.2, fun x => ok x.1 ∧ ok x.2, fun x h => ⟨le _ h.1, le _ h.2⟩⟩
instance {α : Type} [Data α] : Data (List α) := ⟨fun xs => xs.length ≤ 4611686018427387904 ∧ ∀ x ∈ xs, bd x, fun xs => xs.length ≤ 1048576 ∧ ∀ x ∈ xs, ok x, fun xs h => ⟨by omega, fun x hx => le x (h.2 x hx)⟩⟩
instance : Flat Int := ⟨fun _ h => h⟩
instance : Flat Bool := ⟨fun _ h => h⟩
instance : Flat ByteArray := ⟨fun _ h => h⟩
instance {α β : Type} [Data α] [Data β] [Flat α] [Flat β] : Flat (α × β) := ⟨fun x h => ⟨Flat.fl _ h.1, Flat.fl _ h.2⟩⟩

section
variable {α : Type} [Data α]
theorem Data.ok.at {xs : List α} (h : ok xs) {k : Nat} (hk : k < xs.length) : ok xs[k] := h.2 _ (List.getElem_mem hk)
theorem Data.bd.at {xs : List α} (h : bd xs) {k : Nat} (hk : k < xs.length) : bd xs[k] := h.2 _ (List.getElem_mem hk)
theorem Data.ok.sub {xs ys : List α} (h : ok xs) (hs : ys.Sublist xs) : ok ys := ⟨Nat.le_trans hs.length_le h.1, fun x hx => h.2 x (hs.subset hx)⟩
end
/-! ## Words, once more -/
section
variable {R α β : Type}
theorem neB_d (a b : Bool) : N.neB a b = decide (¬ a = b) := by cases a <;> cases b <;> rfl
theorem not_d (p : Prop) [Decidable p] : N.not (decide p) = decide (¬ p) := by unfold N.not; by_cases h : p <;> simp [h]
theorem both_d (p q : Prop) [Decidable p] [Decidable q] : N.both (decide p) (decide q) = decide (p ∧ q) := by unfold N.both; by_cases h : p <;> by_cases h' : q <;> simp [h, h']
/-! ## Copies -/
theorem set_grow {xs ys : List α} {k : Nat} (hk : k < xs.length) (hl : ys.length = xs.length) (h : ys.take k = xs.take k) : (ys.set k xs[k]).take (k + 1) = xs.take (k + 1) := by
  apply List.ext_getElem
  · simp [hl]
  · intro i h1 h2
    simp only [List.length_take, List.length_set] at h1 h2
    simp only [List.getElem_take, List.getElem_set]
    split
    · rename_i e; subst e; rfl
    · have hi : i < k := by omega
      have := congrArg (fun l => l[i]?) h
      simp [List.getElem?_take, hi] at this
      rw [List.getElem?_eq_getElem (by omega), List.getElem?_eq_getElem (by omega)] at this
      simpa using this

/-- an element of a list that is copied -/
def toStep (xs : List α) (d : α) (f : α → Option α) (s1 : Int × List α) : Option ((Int × List α) ⊕ List α) :=
  N.cond (N.lt s1.1 (N.len xs)) (N.ite (0 ≤ s1.1) (N.ite (s1.1 < N.len xs) (N.bind (f (N.rd xs s1.1 d)) fun r1 => N.ite (0 ≤ s1.1) (N.ite (s1.1 < N.len s1.2) (some (.inl (N.add .i64 s1.1 1, N.set s1.2 s1.1 r1))) none) none) none) none) (some (.inr s1.2))

theorem toLoop {xs : List α} {d : α} {f : α → Option α} (hf : ∀ x ∈ xs, f x = some x) (hs : xs.length ≤ 1048576) : loopF (toStep xs d f) (0, N.rep (N.len xs) d) = some xs := by
  have key : ∀ (m k : Nat) (ys : List α), k + m = xs.length → ys.length = xs.length → ys.take k = xs.take k → loopF (toStep xs d f) ((k : Int), ys) = some xs := by
    intro m
    induction m with
    | zero =>
      intro k ys hk hl ht
      refine loopF_inr ?_
      have : ys = xs := by
        rw [show k = xs.length by omega] at ht
        rw [List.take_length, ← hl, List.take_length] at ht
        exact ht
      subst this
      simp only [toStep, lt_d, len_d, cond_dec]
      rw [if_neg (by omega)]
    | succ m ih =>
      intro k ys hk hl ht
      have hlt : k < xs.length := by omega
      rw [loopF_inl (s' := (((k + 1 : Nat) : Int), ys.set k xs[k])) ?_]
      · exact ih (k + 1) _ (by omega) (by simp [hl]) (set_grow hlt hl ht)
      · simp only [toStep, ite_if]; simp only [lt_d, len_d, cond_dec]
        rw [if_pos (by omega), if_pos (by omega), if_pos (by omega), rd_at xs k hlt, hf _ (List.getElem_mem hlt), bind_some', if_pos (by omega), if_pos (by omega), next_id hlt (by omega)]
        rfl
  have := key xs.length 0 (N.rep (N.len xs) d) (by omega) (by simp [N.rep, N.len]) (by simp)
  simpa using this

theorem toS_is {xs : List α} {bytes : Nat} {d : α} {f : α → Option α} (hb : bytes ≤ 10000) (hf : ∀ x ∈ xs, f x = some x) (hs : xs.length ≤ 1048576) :
    N.ite (0 ≤ N.len xs) (N.ite (N.room (N.len xs) bytes) (loopF (toStep xs d f) (0, N.rep (N.len xs) d)) none) none = some xs := by
  rw [nite_pos (by simp [N.len]), nite_pos, toLoop hf hs]
  unfold N.room N.len
  have : (xs.length : Int) * bytes ≤ 1048576 * 10000 := Int.mul_le_mul (by omega) (by omega) (by omega) (by omega)
  omega

/-! ## Comparing -/
def eqStep (xs ys : List α) (d : α) (f : α → α → Option Bool) (s1 : Int) : Option (Int ⊕ Bool) :=
  N.cond (N.lt s1 (N.len xs)) (N.ite (0 ≤ s1) (N.ite (s1 < N.len xs) (N.ite (0 ≤ s1) (N.ite (s1 < N.len ys) (N.bind (f (N.rd xs s1 d) (N.rd ys s1 d)) fun r1 => N.cond (N.not r1) (some (.inr false)) (some (.inl (N.add .i64 s1 1)))) none) none) none) none) (some (.inr true))

theorem eqLoop [DecidableEq α] {xs ys : List α} {d : α} {f : α → α → Option Bool} {r : α → α → Bool} (hf : ∀ x ∈ xs, ∀ y ∈ ys, f x y = some (r x y)) (hs : xs.length ≤ 4611686018427387904) (hl : xs.length = ys.length) :
    loopF (eqStep xs ys d f) 0 = some ((List.zip xs ys).all fun p => r p.1 p.2) := by
  have key : ∀ (m k : Nat), k + m = xs.length → loopF (eqStep xs ys d f) (k : Int) = some ((List.zip (xs.drop k) (ys.drop k)).all fun p => r p.1 p.2) := by
    intro m
    induction m with
    | zero =>
      intro k hk
      rw [loopF_inr (r := true) ?_]
      · rw [List.drop_eq_nil_of_le (by omega)]; simp
      · simp only [eqStep, lt_d, len_d, cond_dec]; rw [if_neg (by omega)]
    | succ m ih =>
      intro k hk
      have hlt : k < xs.length := by omega
      have hlt' : k < ys.length := by omega
      rw [List.drop_eq_getElem_cons hlt, List.drop_eq_getElem_cons hlt']
      have hst : eqStep xs ys d f (k : Int) = N.cond (N.not (r xs[k] ys[k])) (some (.inr false)) (some (.inl ((k + 1 : Nat) : Int))) := by
        simp only [eqStep, ite_if]; simp only [lt_d, len_d, cond_dec]
        rw [if_pos (by omega), if_pos (by omega), if_pos (by omega), if_pos (by omega), if_pos (by omega), rd_at xs k hlt, rd_at ys k hlt', hf _ (List.getElem_mem hlt) _ (List.getElem_mem hlt'), bind_some', next_id hlt (by omega)]
      cases hr : r xs[k] ys[k] with
      | true => rw [loopF_inl (s' := ((k + 1 : Nat) : Int)) (by rw [hst, hr]; rfl), ih (k + 1) (by omega)]; simp only [List.zip_cons_cons, List.all_cons, hr, Bool.true_and]
      | false => rw [loopF_inr (r := false) (by rw [hst, hr]; rfl)]; simp only [List.zip_cons_cons, List.all_cons, hr, Bool.false_and]
  simpa using key xs.length 0 (by omega)

theorem zip_all_eq [DecidableEq α] : ∀ {xs ys : List α}, xs.length = ys.length → ((List.zip xs ys).all fun p => decide (p.1 = p.2)) = decide (xs = ys)
  | [], [], _ => by simp
  | x :: xs, y :: ys, h => by
    simp only [List.zip_cons_cons, List.all_cons, zip_all_eq (xs := xs) (ys := ys) (by simpa using h)]
    by_cases h1 : x = y <;> by_cases h2 : xs = ys <;> simp [h1, h2]
  | [], _ :: _, h => by simp at h
  | _ :: _, [], h => by simp at h

theorem eqS_is [DecidableEq α] {xs ys : List α} {d : α} {f : α → α → Option Bool} (hf : ∀ x ∈ xs, ∀ y, f x y = some (decide (x = y))) (hs : xs.length ≤ 4611686018427387904) :
    N.cond (N.ne (N.len xs) (N.len ys)) (some false) (loopF (eqStep xs ys d f) 0) = some (decide (xs = ys)) := by
  simp only [ne_d, len_d, cond_dec]
  split
  · rename_i h
    have : ¬ xs = ys := fun e => h (by rw [e])
    simp [this]
  · rename_i h
    have hl : xs.length = ys.length := by omega
    rw [eqLoop (r := fun x y => decide (x = y)) (fun x hx y _ => hf x hx y) hs hl, zip_all_eq hl]

/-! ## Sizes -/
def SzOk [Data α] (f : α → Int → Option Int) : Prop := ∀ x left, bd x → 0 ≤ left → left ≤ 1048576 → ∃ r, f x left = some r ∧ (r < 0 ∨ (ok x ∧ 0 ≤ r ∧ r ≤ left))

theorem szFlat_is [Data α] [Flat α] : SzOk (fun (xs : List α) (left : Int) => N.cond (N.lt (N.sub .i64 left (N.len xs)) 0) (some (-1)) (some (N.sub .i64 left (N.len xs)))) := by
  intro xs left hb h0 h1
  have h2 := hb.1
  simp only [len_d, lt_d, cond_dec, sub_id (a := left) (b := (xs.length : Int)) (by omega) (by omega)]
  split
  · exact ⟨-1, rfl, .inl (by omega)⟩
  · exact ⟨_, rfl, .inr ⟨⟨by omega, fun x hx => Flat.fl x (hb.2 x hx)⟩, by omega, by omega⟩⟩

def szStep (xs : List α) (d : α) (f : α → Int → Option Int) (s1 : Int × Int) : Option ((Int × Int) ⊕ Int) :=
  N.cond (N.lt s1.2 (N.len xs)) (N.ite (0 ≤ s1.2) (N.ite (s1.2 < N.len xs) (N.bind (f (N.rd xs s1.2 d) s1.1) fun r1 => N.cond (N.lt r1 0) (some (.inr (-1))) (some (.inl (r1, N.add .i64 s1.2 1)))) none) none) (some (.inr s1.1))

theorem szNest_is [Data α] {d : α} {f : α → Int → Option Int} (hf : SzOk f) : SzOk (fun (xs : List α) (left : Int) => N.cond (N.lt (N.sub .i64 left (N.len xs)) 0) (some (-1)) (loopF (szStep xs d f) (N.sub .i64 left (N.len xs), 0))) := by
  intro xs left hb h0 h1
  have h2 := hb.1
  simp only [len_d, lt_d, cond_dec, sub_id (a := left) (b := (xs.length : Int)) (by omega) (by omega)]
  split
  · exact ⟨-1, rfl, .inl (by omega)⟩
  · have key : ∀ (m k : Nat) (l : Int), k + m = xs.length → 0 ≤ l → l ≤ 1048576 → ∃ r, loopF (szStep xs d f) (l, (k : Int)) = some r ∧ (r < 0 ∨ ((∀ x ∈ xs.drop k, ok x) ∧ 0 ≤ r ∧ r ≤ l)) := by
      intro m
      induction m with
      | zero =>
        intro k l hk hl0 hl1
        refine ⟨l, loopF_inr ?_, .inr ⟨fun x hx => ?_, hl0, by omega⟩⟩
        · simp only [szStep, lt_d, len_d, cond_dec]; rw [if_neg (by omega)]
        · rw [List.drop_eq_nil_of_le (by omega)] at hx; cases hx
      | succ m ih =>
        intro k l hk hl0 hl1
        have hlt : k < xs.length := by omega
        obtain ⟨r, e, h⟩ := hf xs[k] l (hb.at hlt) hl0 hl1
        have hst : szStep xs d f (l, (k : Int)) = if r < 0 then some (.inr (-1)) else some (.inl (r, ((k + 1 : Nat) : Int))) := by
          simp only [szStep, ite_if]; simp only [lt_d, len_d, cond_dec]
          rw [if_pos (by omega), if_pos (by omega), if_pos (by omega), rd_at xs k hlt, e, bind_some', next_id hlt (by omega)]
        rcases h with h | ⟨h3, h4, h5⟩
        · exact ⟨-1, loopF_inr (by rw [hst, if_pos h]), .inl (by omega)⟩
        · obtain ⟨r2, e2, h6⟩ := ih (k + 1) r (by omega) h4 (by omega)
          refine ⟨r2, by rw [loopF_inl (by rw [hst, if_neg (by omega)]), e2], h6.imp id fun ⟨h7, h8, h9⟩ => ⟨fun x hx => ?_, h8, by omega⟩⟩
          rw [List.drop_eq_getElem_cons hlt] at hx
          rcases List.mem_cons.1 hx with rfl | hx
          · exact h3
          · exact h7 x hx
    obtain ⟨r, e, h⟩ := key xs.length 0 (left - xs.length) (by omega) (by omega) (by omega)
    refine ⟨r, e, h.imp id fun ⟨h7, h8, h9⟩ => ⟨⟨by omega, by simpa using h7⟩, h8, by omega⟩⟩
end
end Go.Sh
set_option linter.unusedVariables false
set_option linter.unusedSimpArgs false
set_option synthInstance.maxSize 100000
set_option maxHeartbeats 1000000
namespace Go.Sh
open Go Data
namespace D
theorem laws_toIntS_is (x : List Int) (h : ok x) : laws_toIntS x = some x := by
  unfold laws_toIntS
  exact toS_is (d := 0) (f := fun y => some y) (by decide) (fun y hy => rfl) h.1

theorem laws_eqIntS_is (x y : List Int) (h : ok x) : laws_eqIntS x y = some (decide (x = y)) := by
  have e : laws_eqIntS x y = N.cond (N.ne (N.len x) (N.len y)) (some false) (loopF (eqStep x y 0 fun a b => some (decide (a = b))) 0) := by
    unfold laws_eqIntS
    congr 2 <;> (funext s; simp only [eqStep, bind_some', ne_d, not_d, cond_dec]; try simp only [ite_not])
  rw [e]
  exact eqS_is (fun a ha b => rfl) (by have := h.1; omega)

theorem laws_szIntS_is : SzOk laws_szIntS := szFlat_is

theorem laws_szResource_is : SzOk laws_szResource := by
  intro x left hb h0 h1
  unfold laws_szResource
  obtain ⟨r0, e0, g0⟩ := laws_szIntS_is _ left hb.2.1 h0 h1
  rw [e0, bind_some']
  rcases g0 with g0 | ⟨k0, l0, m0⟩
  · exact ⟨-1, by (try simp only [lt_d, cond_dec]); rw [if_pos g0], .inl (by omega)⟩
  (try simp only [lt_d, cond_dec]); rw [if_neg (by omega)]
  exact ⟨_, rfl, .inr ⟨⟨Flat.fl _ hb.1, k0, Flat.fl _ hb.2.2⟩, by omega, by omega⟩⟩

theorem laws_szCapture_is : SzOk laws_szCapture := by
  intro x left hb h0 h1
  unfold laws_szCapture
  obtain ⟨r0, e0, g0⟩ := laws_szResource_is _ left hb.2.2 h0 h1
  rw [e0, bind_some']
  rcases g0 with g0 | ⟨k0, l0, m0⟩
  · exact ⟨-1, by (try simp only [lt_d, cond_dec]); rw [if_pos g0], .inl (by omega)⟩
  (try simp only [lt_d, cond_dec]); rw [if_neg (by omega)]
  exact ⟨_, rfl, .inr ⟨⟨Flat.fl _ hb.1, Flat.fl _ hb.2.1, k0⟩, by omega, by omega⟩⟩

theorem laws_toAddress_is (x : Address) (h : ok x) : laws_toAddress x = some x := rfl

theorem laws_toResource_is (x : Resource) (h : ok x) : laws_toResource x = some x := by
  unfold laws_toResource
  rw [laws_toIntS_is _ h.2.1, bind_some', laws_toAddress_is _ h.2.2, bind_some']

theorem laws_toCapture_is (x : Capture) (h : ok x) : laws_toCapture x = some x := by
  unfold laws_toCapture
  rw [laws_toAddress_is _ h.1, bind_some', laws_toResource_is _ h.2.2, bind_some']

theorem laws_eqAddress_is (x y : Address) (h : ok x) : laws_eqAddress x y = some (decide (x = y)) := by
  obtain ⟨a0, a1, a2⟩ := x; obtain ⟨b0, b1, b2⟩ := y
  unfold laws_eqAddress
  simp only [ne_d, neB_d, not_d, cond_dec, Prod.mk.injEq]
  by_cases e0 : a0 = b0 <;> by_cases e1 : a1 = b1 <;> by_cases e2 : a2 = b2 <;> simp [e0, e1, e2]

theorem laws_eqResource_is (x y : Resource) (h : ok x) : laws_eqResource x y = some (decide (x = y)) := by
  obtain ⟨a0, a1, a2⟩ := x; obtain ⟨b0, b1, b2⟩ := y
  unfold laws_eqResource
  simp only [laws_eqIntS_is _ _ h.2.1, laws_eqAddress_is _ _ h.2.2, bind_some']
  simp only [ne_d, neB_d, not_d, cond_dec, Prod.mk.injEq]
  by_cases e0 : a0 = b0 <;> by_cases e1 : a1 = b1 <;> by_cases e2 : a2 = b2 <;> simp [e0, e1, e2]

theorem laws_eqCapture_is (x y : Capture) (h : ok x) : laws_eqCapture x y = some (decide (x = y)) := by
  obtain ⟨a0, a1, a2⟩ := x; obtain ⟨b0, b1, b2⟩ := y
  unfold laws_eqCapture
  simp only [laws_eqAddress_is _ _ h.1, laws_eqResource_is _ _ h.2.2, bind_some']
  simp only [ne_d, neB_d, not_d, cond_dec, Prod.mk.injEq]
  by_cases e0 : a0 = b0 <;> by_cases e1 : a1 = b1 <;> by_cases e2 : a2 = b2 <;> simp [e0, e1, e2]

theorem laws_szEntryS_is : SzOk laws_szEntryS := szFlat_is

theorem laws_toEntry_is (x : Entry) (h : ok x) : laws_toEntry x = some x := by
  unfold laws_toEntry
  rw [laws_toAddress_is _ h.2.1, bind_some']

theorem laws_toEntryS_is (x : List Entry) (h : ok x) : laws_toEntryS x = some x := by
  unfold laws_toEntryS
  exact toS_is (d := (0, (0, 0, 0), 0)) (f := laws_toEntry) (by decide) (fun y hy => laws_toEntry_is y (h.2 y hy)) h.1

theorem laws_eqEntry_is (x y : Entry) (h : ok x) : laws_eqEntry x y = some (decide (x = y)) := by
  obtain ⟨a0, a1, a2⟩ := x; obtain ⟨b0, b1, b2⟩ := y
  unfold laws_eqEntry
  simp only [laws_eqAddress_is _ _ h.2.1, bind_some']
  simp only [ne_d, neB_d, not_d, cond_dec, Prod.mk.injEq]
  by_cases e0 : a0 = b0 <;> by_cases e1 : a1 = b1 <;> by_cases e2 : a2 = b2 <;> simp [e0, e1, e2]

theorem laws_eqEntryS_is (x y : List Entry) (h : ok x) : laws_eqEntryS x y = some (decide (x = y)) := by
  unfold laws_eqEntryS
  exact eqS_is (d := (0, (0, 0, 0), 0)) (f := laws_eqEntry) (fun a ha b => laws_eqEntry_is a b (h.2 a ha)) (by have := h.1; omega)

theorem laws_szOpS_is : SzOk laws_szOpS := szFlat_is

theorem laws_toOp_is (x : Op) (h : ok x) : laws_toOp x = some x := rfl

theorem laws_toOpS_is (x : List Op) (h : ok x) : laws_toOpS x = some x := by
  unfold laws_toOpS
  exact toS_is (d := (0, 0, 0, 0)) (f := laws_toOp) (by decide) (fun y hy => laws_toOp_is y (h.2 y hy)) h.1

theorem laws_szCaptureS_is : SzOk laws_szCaptureS := szNest_is (d := ((0, 0, 0), 0, (0, [], (0, 0, 0)))) laws_szCapture_is

theorem laws_toCaptureS_is (x : List Capture) (h : ok x) : laws_toCaptureS x = some x := by
  unfold laws_toCaptureS
  exact toS_is (d := ((0, 0, 0), 0, (0, [], (0, 0, 0)))) (f := laws_toCapture) (by decide) (fun y hy => laws_toCapture_is y (h.2 y hy)) h.1

theorem laws_eqCaptureS_is (x y : List Capture) (h : ok x) : laws_eqCaptureS x y = some (decide (x = y)) := by
  unfold laws_eqCaptureS
  exact eqS_is (d := ((0, 0, 0), 0, (0, [], (0, 0, 0)))) (f := laws_eqCapture) (fun a ha b => laws_eqCapture_is a b (h.2 a ha)) (by have := h.1; omega)

theorem laws_szContainer_is : SzOk laws_szContainer := by
  intro x left hb h0 h1
  unfold laws_szContainer
  obtain ⟨r0, e0, g0⟩ := laws_szOpS_is _ left hb.1 h0 h1
  rw [e0, bind_some']
  rcases g0 with g0 | ⟨k0, l0, m0⟩
  · exact ⟨-1, by (try simp only [lt_d, cond_dec]); rw [if_pos g0], .inl (by omega)⟩
  (try simp only [lt_d, cond_dec]); rw [if_neg (by omega)]
  obtain ⟨r1, e1, g1⟩ := laws_szEntryS_is _ r0 hb.2.1 l0 (by omega)
  rw [e1, bind_some']
  rcases g1 with g1 | ⟨k1, l1, m1⟩
  · exact ⟨-1, by (try simp only [lt_d, cond_dec]); rw [if_pos g1], .inl (by omega)⟩
  (try simp only [lt_d, cond_dec]); rw [if_neg (by omega)]
  obtain ⟨r2, e2, g2⟩ := laws_szCaptureS_is _ r1 hb.2.2.1 l1 (by omega)
  rw [e2, bind_some']
  rcases g2 with g2 | ⟨k2, l2, m2⟩
  · exact ⟨-1, by (try simp only [lt_d, cond_dec]); rw [if_pos g2], .inl (by omega)⟩
  (try simp only [lt_d, cond_dec]); rw [if_neg (by omega)]
  exact ⟨_, rfl, .inr ⟨⟨k0, k1, k2, Flat.fl _ hb.2.2.2⟩, by omega, by omega⟩⟩

theorem laws_toContainer_is (x : Container) (h : ok x) : laws_toContainer x = some x := by
  unfold laws_toContainer
  rw [laws_toOpS_is _ h.1, bind_some', laws_toEntryS_is _ h.2.1, bind_some', laws_toCaptureS_is _ h.2.2.1, bind_some']

theorem laws_eqOp_is (x y : Op) (h : ok x) : laws_eqOp x y = some (decide (x = y)) := by
  obtain ⟨a0, a1, a2, a3⟩ := x; obtain ⟨b0, b1, b2, b3⟩ := y
  unfold laws_eqOp
  simp only [ne_d, neB_d, not_d, cond_dec, Prod.mk.injEq]
  by_cases e0 : a0 = b0 <;> by_cases e1 : a1 = b1 <;> by_cases e2 : a2 = b2 <;> by_cases e3 : a3 = b3 <;> simp [e0, e1, e2, e3]

theorem laws_eqOpS_is (x y : List Op) (h : ok x) : laws_eqOpS x y = some (decide (x = y)) := by
  unfold laws_eqOpS
  exact eqS_is (d := (0, 0, 0, 0)) (f := laws_eqOp) (fun a ha b => laws_eqOp_is a b (h.2 a ha)) (by have := h.1; omega)

theorem laws_eqContainer_is (x y : Container) (h : ok x) : laws_eqContainer x y = some (decide (x = y)) := by
  obtain ⟨a0, a1, a2, a3⟩ := x; obtain ⟨b0, b1, b2, b3⟩ := y
  unfold laws_eqContainer
  simp only [laws_eqOpS_is _ _ h.1, laws_eqEntryS_is _ _ h.2.1, laws_eqCaptureS_is _ _ h.2.2.1, bind_some']
  simp only [ne_d, neB_d, not_d, cond_dec, Prod.mk.injEq]
  by_cases e0 : a0 = b0 <;> by_cases e1 : a1 = b1 <;> by_cases e2 : a2 = b2 <;> by_cases e3 : a3 = b3 <;> simp [e0, e1, e2, e3]

end D
end Go.Sh
set_option linter.unusedVariables false
set_option linter.unusedSimpArgs false
set_option synthInstance.maxSize 100000
set_option maxHeartbeats 1000000
namespace Go.Sh
open Go Data
namespace D
end D
end Go.Sh
set_option linter.unusedVariables false
set_option linter.unusedSimpArgs false
set_option synthInstance.maxSize 100000
set_option maxHeartbeats 1000000
namespace Go.Sh
open Go Data
/-! ## Loops that look for something -/
theorem loop_find {α S R : Type} {step : S → Option (S ⊕ R)} (xs : List α) (emb : Nat → S) (p : α → Option R) (r0 : R)
    (hstep : ∀ (k : Nat) (hk : k < xs.length), step (emb k) = some (match p xs[k] with | some r => .inr r | none => .inl (emb (k + 1))))
    (hend : step (emb xs.length) = some (.inr r0)) : loopF step (emb 0) = some ((xs.findSome? p).getD r0) := by
  have key : ∀ (m k : Nat), k + m = xs.length → loopF step (emb k) = some (((xs.drop k).findSome? p).getD r0) := by
    intro m
    induction m with
    | zero =>
      intro k hk
      have hk' : k = xs.length := by omega
      subst hk'
      rw [loopF_inr hend, List.drop_length]; rfl
    | succ m ih =>
      intro k hk
      have hlt : k < xs.length := by omega
      rw [List.drop_eq_getElem_cons hlt, List.findSome?_cons]
      cases hp : p xs[k] with
      | none => rw [loopF_inl (s' := emb (k + 1)) (by rw [hstep k hlt, hp]), ih (k + 1) (by omega)]
      | some r => rw [loopF_inr (r := r) (by rw [hstep k hlt, hp])]; rfl
  simpa using key xs.length 0 (by omega)

theorem loop_all {α S : Type} {step : S → Option (S ⊕ Bool)} (xs : List α) (emb : Nat → S) (p : α → Bool)
    (hstep : ∀ (k : Nat) (hk : k < xs.length), step (emb k) = some (if p xs[k] = true then .inl (emb (k + 1)) else .inr false))
    (hend : step (emb xs.length) = some (.inr true)) : loopF step (emb 0) = some (xs.all p) := by
  rw [loop_find xs emb (fun x => if p x = true then none else some false) true (fun k hk => by rw [hstep k hk]; split <;> rfl) hend]
  congr 1
  clear hstep hend
  induction xs with
  | nil => rfl
  | cons y ys ih2 => rw [List.findSome?_cons, List.all_cons]; cases hp : p y <;> simp [ih2]

namespace D
/-! ## Counts -/
end D
end Go.Sh
set_option linter.unusedVariables false
set_option linter.unusedSimpArgs false
set_option synthInstance.maxSize 100000
set_option maxHeartbeats 1000000
namespace Go.Sh
open Go Data
theorem loop_eq2 {α S : Type} [DecidableEq α] {step : S → Option (S ⊕ Bool)} (xs ys : List α) (emb : Nat → S) (hl : xs.length = ys.length)
    (hstep : ∀ (k : Nat) (hk : k < xs.length) (hk' : k < ys.length), step (emb k) = some (if xs[k] = ys[k] then .inl (emb (k + 1)) else .inr false))
    (hend : step (emb xs.length) = some (.inr true)) : loopF step (emb 0) = some (decide (xs = ys)) := by
  rw [← zip_all_eq hl]
  refine loop_all (xs.zip ys) emb (fun p => decide (p.1 = p.2)) (fun k hk => ?_) ?_
  · have h1 : k < xs.length := by simp at hk; omega
    rw [hstep k h1 (by omega)]
    simp only [List.getElem_zip, decide_eq_true_eq]
  · rw [List.length_zip, ← hl, Nat.min_self]; exact hend

/-- collecting -/
theorem loop_flat {α β : Type} {step : List β × Int → Option ((List β × Int) ⊕ List β)} (xs : List α) (f : α → List β)
    (hstep : ∀ (k : Nat) (hk : k < xs.length), step ((xs.take k).flatMap f, (k : Int)) = some (.inl ((xs.take k).flatMap f ++ f xs[k], ((k + 1 : Nat) : Int))))
    (hend : step (xs.flatMap f, (xs.length : Int)) = some (.inr (xs.flatMap f))) : loopF step ([], 0) = some (xs.flatMap f) := by
  refine loop_upto (r := xs.flatMap f) xs.length (fun k (a : List β) => (a, (k : Int))) (fun k => (xs.take k).flatMap f) (fun k hk => ?_) ?_
  · rw [hstep k hk, List.take_succ_eq_append_getElem hk, List.flatMap_append]; simp
  · rw [List.take_length]; exact hend

theorem flat_len {α β : Type} {f : α → List β} {m : Nat} : ∀ (xs : List α), (∀ x ∈ xs, (f x).length ≤ m) → (xs.flatMap f).length ≤ xs.length * m
  | [], _ => by simp
  | x :: xs, h => by
    have h1 := flat_len xs fun y hy => h y (by simp [hy])
    have h2 := h x (by simp)
    simp only [List.flatMap_cons, List.length_append, List.length_cons, Nat.add_mul]; omega
theorem take_flat_len {α β : Type} {f : α → List β} {m k : Nat} {xs : List α} (h : ∀ x ∈ xs, (f x).length ≤ m) (hk : k ≤ xs.length) : ((xs.take k).flatMap f).length ≤ k * m := by
  have := flat_len (xs.take k) fun y hy => h y (List.mem_of_mem_take hy)
  simpa [Nat.min_eq_left hk] using this

theorem fitsN {α : Type} {xs ys : List α} {b : Nat} (h : xs.length + ys.length ≤ 100000000) (hb : b ≤ 1000000) : N.fits xs ys b := by
  unfold N.fits
  exact Nat.le_trans (Nat.mul_le_mul h hb) (by decide)

namespace D
theorem addr_eq (x y : Address) : N.both (N.eq x.1 y.1) (N.both (N.eq x.2.1 y.2.1) (N.eq x.2.2 y.2.2)) = decide (x = y) := by
  obtain ⟨a, b, c⟩ := x; obtain ⟨d, e, f⟩ := y
  simp only [eq_d, both_d, Prod.mk.injEq]
theorem op_eq (x y : Op) : N.both (N.eq x.1 y.1) (N.both (N.eq x.2.1 y.2.1) (N.both (N.eq x.2.2.1 y.2.2.1) (N.eq x.2.2.2 y.2.2.2))) = decide (x = y) := by
  obtain ⟨a, b, c, d⟩ := x; obtain ⟨e, f, g, h⟩ := y
  simp only [eq_d, both_d, Prod.mk.injEq]
theorem entry_eq (x y : Entry) : N.both (N.eq x.1 y.1) (N.both (N.eq x.2.1.1 y.2.1.1) (N.both (N.eq x.2.1.2.1 y.2.1.2.1) (N.both (N.eq x.2.1.2.2 y.2.1.2.2) (N.eq x.2.2 y.2.2)))) = decide (x = y) := by
  obtain ⟨a, ⟨b, c, d⟩, e⟩ := x; obtain ⟨a', ⟨b', c', d'⟩, e'⟩ := y
  simp only [eq_d, both_d, Prod.mk.injEq, and_assoc]

theorem eq_len {α : Type} [DecidableEq α] {x y : List α} {K : Option Bool} (h : x.length = y.length → K = some (decide (x = y))) : N.cond (N.ne (N.len x) (N.len y)) (some false) K = some (decide (x = y)) := by
  simp only [ne_d, len_d, cond_dec]
  split
  · rename_i h1
    have : ¬ x = y := fun e => h1 (by rw [e])
    simp [this]
  · exact h (by omega)

theorem slices_Equal_int_is {x y : List Int} (h : x.length ≤ 4611686018427387904) : slices_Equal_int x y = some (decide (x = y)) := by
  refine eq_len fun hl => loop_eq2 x y (fun k => (k : Int)) hl (fun k hk hk' => ?_) ?_
  · have h0 : (0 : Int) ≤ (k : Int) := by omega
    have h1 : (k : Int) < (x.length : Int) := by omega
    have h2 : (k : Int) < (y.length : Int) := by omega
    simp only [ite_if]; simp only [lt_d, len_d, cond_dec, h0, h1, h2, if_true, rd_at x k hk, rd_at y k hk', ne_d, next_id hk (by omega)]
    by_cases e : x[k] = y[k] <;> simp [e]
  · simp only [lt_d, len_d, cond_dec]; rw [if_neg (by omega)]
theorem spec_EqualInts_is {x y : List Int} (h : x.length ≤ 4611686018427387904) : spec_EqualInts x y = some (decide (x = y)) := slices_Equal_int_is h
theorem slices_Equal_Op_is {x y : List Op} (h : x.length ≤ 4611686018427387904) : slices_Equal_Op x y = some (decide (x = y)) := by
  refine eq_len fun hl => loop_eq2 x y (fun k => (k : Int)) hl (fun k hk hk' => ?_) ?_
  · have h0 : (0 : Int) ≤ (k : Int) := by omega
    have h1 : (k : Int) < (x.length : Int) := by omega
    have h2 : (k : Int) < (y.length : Int) := by omega
    simp only [ite_if]; simp only [lt_d, len_d, cond_dec, h0, h1, h2, if_true, rd_at x k hk, rd_at y k hk', op_eq, not_d, next_id hk (by omega)]
    by_cases e : x[k] = y[k] <;> simp [e]
  · simp only [lt_d, len_d, cond_dec]; rw [if_neg (by omega)]
theorem slices_Equal_Entry_is {x y : List Entry} (h : x.length ≤ 4611686018427387904) : slices_Equal_Entry x y = some (decide (x = y)) := by
  refine eq_len fun hl => loop_eq2 x y (fun k => (k : Int)) hl (fun k hk hk' => ?_) ?_
  · have h0 : (0 : Int) ≤ (k : Int) := by omega
    have h1 : (k : Int) < (x.length : Int) := by omega
    have h2 : (k : Int) < (y.length : Int) := by omega
    simp only [ite_if]; simp only [lt_d, len_d, cond_dec, h0, h1, h2, if_true, rd_at x k hk, rd_at y k hk', entry_eq, not_d, next_id hk (by omega)]
    by_cases e : x[k] = y[k] <;> simp [e]
  · simp only [lt_d, len_d, cond_dec]; rw [if_neg (by omega)]
theorem spec_EqualEntries_is {x y : List Entry} (h : x.length ≤ 4611686018427387904) : spec_EqualEntries x y = some (decide (x = y)) := slices_Equal_Entry_is h
theorem impl_EqualEntries_is {x y : List Entry} (h : x.length ≤ 4611686018427387904) : impl_EqualEntries x y = some (decide (x = y)) := by unfold impl_EqualEntries; rw [slices_Equal_Entry_is h]; rfl

/-! ### Captures, editions -/
theorem impl_EqualResources_is {x y : Resource} (h : ok x) : impl_EqualResources x y = some (decide (x = y)) := by
  unfold impl_EqualResources
  rw [slices_Equal_int_is (by have := h.2.1.1; omega), bind_some', addr_eq]
  obtain ⟨a, b, c⟩ := x; obtain ⟨a', b', c'⟩ := y
  simp only [eq_d, cond_dec, Prod.mk.injEq]
  by_cases e0 : a = a' <;> by_cases e1 : b = b' <;> by_cases e2 : c = c' <;> simp [e0, e1, e2]
theorem spec_EqualResources_is {x y : Resource} (h : ok x) : spec_EqualResources x y = some (decide (x = y)) := impl_EqualResources_is h
theorem impl_sameCapture_is {x y : Capture} (h : ok x) : impl_sameCapture x y = some (decide (x = y)) := by
  unfold impl_sameCapture
  rw [impl_EqualResources_is h.2.2, bind_some', addr_eq]
  obtain ⟨a, b, c⟩ := x; obtain ⟨a', b', c'⟩ := y
  simp only [eq_d, cond_dec, Prod.mk.injEq]
  by_cases e0 : a = a' <;> by_cases e1 : b = b' <;> by_cases e2 : c = c' <;> simp [e0, e1, e2]
theorem spec_l15Same_is {x y : Capture} (h : ok x) : spec_l15Same x y = some (decide (x = y)) := by
  unfold spec_l15Same
  rw [spec_EqualResources_is h.2.2, bind_some', addr_eq]
  obtain ⟨a, b, c⟩ := x; obtain ⟨a', b', c'⟩ := y
  simp only [eq_d, cond_dec, Prod.mk.injEq]
  by_cases e0 : a = a' <;> by_cases e1 : b = b' <;> by_cases e2 : c = c' <;> simp [e0, e1, e2]
theorem spec_EqualCaptures_is {x y : List Capture} (h : ok x) : spec_EqualCaptures x y = some (decide (x = y)) := by
  have hx := h.1
  refine eq_len fun hl => loop_eq2 x y (fun k => (k : Int)) hl (fun k hk hk' => ?_) ?_
  · have h0 : (0 : Int) ≤ (k : Int) := by omega
    have h1 : (k : Int) < (x.length : Int) := by omega
    have h2 : (k : Int) < (y.length : Int) := by omega
    simp only [ite_if]; simp only [lt_d, len_d, cond_dec, h0, h1, h2, if_true, rd_at x k hk, rd_at y k hk', spec_l15Same_is (h.at hk), bind_some', not_d, next_id hk (by omega)]
    by_cases e : x[k] = y[k] <;> simp [e]
  · simp only [lt_d, len_d, cond_dec]; rw [if_neg (by omega)]
theorem impl_EqualCaptures_is {x y : List Capture} (h : ok x) : impl_EqualCaptures x y = some (decide (x = y)) := by
  have e : slices_EqualFunc_Capture_impl_sameCapture x y = some (decide (x = y)) := by
    have hx := h.1
    refine eq_len fun hl => loop_eq2 x y (fun k => (k : Int)) hl (fun k hk hk' => ?_) ?_
    · have h0 : (0 : Int) ≤ (k : Int) := by omega
      have h1 : (k : Int) < (x.length : Int) := by omega
      have h2 : (k : Int) < (y.length : Int) := by omega
      simp only [ite_if]; simp only [lt_d, len_d, cond_dec, h0, h1, h2, if_true, rd_at x k hk, rd_at y k hk', impl_sameCapture_is (h.at hk), bind_some', not_d, next_id hk (by omega)]
      by_cases e : x[k] = y[k] <;> simp [e]
    · simp only [lt_d, len_d, cond_dec]; rw [if_neg (by omega)]
  unfold impl_EqualCaptures
  rw [e]; rfl
end D
end Go.Sh
set_option linter.unusedVariables false
set_option linter.unusedSimpArgs false
set_option synthInstance.maxSize 100000
set_option maxHeartbeats 1000000
namespace Go.Sh
open Go Data
namespace D
end D
end Go.Sh
set_option linter.unusedVariables false
set_option linter.unusedSimpArgs false
set_option synthInstance.maxSize 100000
set_option maxHeartbeats 1000000
namespace Go.Sh
open Go Data
namespace D
/-! ### Containers -/
def scriptIntsP (l : List Op) : List Int := l.flatMap fun o => [o.1, o.2.1, o.2.2.1, o.2.2.2]
theorem scriptInts_len (l : List Op) : (scriptIntsP l).length = 4 * l.length := by
  unfold scriptIntsP
  induction l with
  | nil => rfl
  | cons o l ih => rw [List.flatMap_cons, List.length_append, ih]; simp only [List.length_cons, List.length_nil]; omega
theorem scriptInts_inj : ∀ {l m : List Op}, scriptIntsP l = scriptIntsP m → l = m
  | [], [], _ => rfl
  | [], o :: m, h => by simp [scriptIntsP] at h
  | o :: l, [], h => by simp [scriptIntsP] at h
  | o :: l, p :: m, h => by
    simp only [scriptIntsP, List.flatMap_cons, List.cons_append, List.nil_append, List.cons.injEq] at h
    obtain ⟨h1, h2, h3, h4, h5⟩ := h
    rw [scriptInts_inj (l := l) (m := m) h5]
    obtain ⟨a, b, c, d⟩ := o; obtain ⟨a', b', c', d'⟩ := p
    simp only at h1 h2 h3 h4
    subst h1; subst h2; subst h3; subst h4; rfl
theorem spec_ScriptInts_is {l : List Op} (h : ok l) : spec_ScriptInts l = some (scriptIntsP l) := by
  have hl := h.1
  refine loop_flat l (fun o => [o.1, o.2.1, o.2.2.1, o.2.2.2]) (fun k hk => ?_) ?_
  · have h0 : (0 : Int) ≤ (k : Int) := by omega
    have h1 : (k : Int) < (l.length : Int) := by omega
    have h2 := take_flat_len (f := fun o : Op => [o.1, o.2.1, o.2.2.1, o.2.2.2]) (m := 4) (xs := l) (fun _ _ => by simp) (Nat.le_of_lt hk)
    simp only [ite_if]; simp only [lt_d, len_d, cond_dec, h0, h1, if_true, rd_at l k hk, next_id hk (by omega)]
    rw [if_pos (fitsN (by show (List.flatMap (fun o : Op => [o.1, o.2.1, o.2.2.1, o.2.2.2]) (l.take k)).length + 4 ≤ 100000000; omega) (by omega))]; rfl
  · simp only [lt_d, len_d, cond_dec]; rw [if_neg (by omega)]
theorem impl_EqualContainers_is {x y : Container} (h : ok x) : impl_EqualContainers x y = some (decide (x = y)) := by
  unfold impl_EqualContainers
  rw [slices_Equal_Op_is (by have := h.1.1; omega), impl_EqualEntries_is (by have := h.2.1.1; omega), impl_EqualCaptures_is h.2.2.1]
  obtain ⟨a, b, c, d⟩ := x; obtain ⟨a', b', c', d'⟩ := y
  simp only [eq_d, bind_some', cond_dec, Prod.mk.injEq]
  by_cases e0 : a = a' <;> by_cases e1 : b = b' <;> by_cases e2 : c = c' <;> by_cases e3 : d = d' <;> simp [e0, e1, e2, e3]
theorem spec_EqualContainers_is {x y : Container} (h : ok x) (hy : ok y) : spec_EqualContainers x y = some (decide (x = y)) := by
  unfold spec_EqualContainers
  rw [spec_ScriptInts_is h.1, spec_ScriptInts_is hy.1, bind_some', bind_some', spec_EqualInts_is (by have := h.1.1; rw [scriptInts_len]; omega), spec_EqualEntries_is (by have := h.2.1.1; omega), spec_EqualCaptures_is h.2.2.1]
  obtain ⟨a, b, c, d⟩ := x; obtain ⟨a', b', c', d'⟩ := y
  have ei : (scriptIntsP a = scriptIntsP a') = (a = a') := propext ⟨scriptInts_inj, fun h => by rw [h]⟩
  simp only [eq_d, bind_some', cond_dec, Prod.mk.injEq, ei]
  by_cases e0 : a = a' <;> by_cases e1 : b = b' <;> by_cases e2 : c = c' <;> by_cases e3 : d = d' <;> simp [e0, e1, e2, e3]
theorem FnExactEqualContainers_true (x y : Container) (hx : bd x) (hy : bd y) : laws_FnExactEqualContainers x y = some true := by
  unfold laws_FnExactEqualContainers
  obtain ⟨s, e, hs⟩ := laws_szContainer_is x 1048576 hx (by omega) (by omega)
  rw [e, bind_some', lt_d, cond_dec]
  rcases hs with hs | ⟨hk, h0, h1⟩
  · rw [if_pos hs]
  rw [if_neg (by omega)]
  obtain ⟨s2, e2, hs2⟩ := laws_szContainer_is y s hy h0 h1
  rw [e2, bind_some', lt_d, cond_dec]
  rcases hs2 with hs2 | ⟨hk2, h2, h3⟩
  · rw [if_pos hs2]
  rw [if_neg (by omega)]
  simp only [laws_toContainer_is _ hk, laws_toContainer_is _ hk2, bind_some', spec_EqualContainers_is hk hk2, impl_EqualContainers_is hk, laws_eqContainer_is _ _ hk, laws_eqContainer_is _ _ hk2, ne_d, neB_d, not_d, cond_dec]
  simp
end D
end Go.Sh
