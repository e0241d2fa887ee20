/- The native forms of the functions that FnShown reaches, and their pure laws: FnShown is true for every input of bounded parts. No condition beyond the bounds that every input keeps. -/
import Derived.Test.YtfipolbgkppdjaaDoorSh9
set_option linter.unusedVariables false
set_option maxRecDepth 100000
set_option maxHeartbeats 4000000
namespace Go.Sh
open Go
namespace N
def nostr : ByteArray := ByteArray.empty
def lit (l : List UInt8) : ByteArray := ⟨l.toArray⟩
def let_ {α R : Type} (x : α) (f : α → Option R) : Option R := f x
end N
namespace D
abbrev Address : Type := Int × Int × Int
abbrev Shown : Type := Int × Address
abbrev Resource : Type := Int × (List Int) × Address
abbrev l1Cur : Type := (List Int) × Int × Int
noncomputable def spec_l1In (x0 : Int) (x1 : Int) (x2 : Int) : Option (Bool) :=
  N.cond (N.ge x0 x1)
    (some (N.le x0 x2))
    (some false)

noncomputable def spec_IsAddress (x0 : Address) : Option (Bool) :=
  N.bind (spec_l1In x0.1 1 9) fun r1 =>
    N.cond r1
      (
        N.bind (spec_l1In x0.2.1 0 99) fun r2 =>
          N.cond r2
            (
              N.bind (spec_l1In x0.2.2 0 99) fun r3 =>
                some r3)
            (some false))
      (some false)

noncomputable def spec_FormatInt (x0 : Int) : Option (ByteArray) :=
  N.cond (N.eq x0 0)
    (some (N.lit [48]))
    (
      loopF (fun (s1 : ByteArray × Int) =>
          N.cond (N.ne s1.2 0)
            (
              N.cond (N.lt (N.rem s1.2 10) 0)
                (
                  N.ite (N.catFits (N.ofBytes [N.conv .u8 (N.add .i64 48 (N.sub .i64 0 (N.rem s1.2 10)))]) s1.1)
                    (some (.inl (N.cat (N.ofBytes [N.conv .u8 (N.add .i64 48 (N.sub .i64 0 (N.rem s1.2 10)))]) s1.1, N.quo .i64 s1.2 10)))
                    none)
                (
                  N.ite (N.catFits (N.ofBytes [N.conv .u8 (N.add .i64 48 (N.rem s1.2 10))]) s1.1)
                    (some (.inl (N.cat (N.ofBytes [N.conv .u8 (N.add .i64 48 (N.rem s1.2 10))]) s1.1, N.quo .i64 s1.2 10)))
                    none))
            (
              Option.map Sum.inr
                (
                  N.cond (N.lt x0 0)
                    (
                      N.ite (N.catFits (N.lit [45]) s1.1)
                        (some (N.cat (N.lit [45]) s1.1))
                        none)
                    (some s1.1))))
        (N.nostr, x0))

noncomputable def spec_AddressText (x0 : Address) : Option (ByteArray) :=
  N.bind (spec_IsAddress x0) fun r1 =>
    N.cond (N.not r1)
      (some N.nostr)
      (
        N.bind (spec_FormatInt x0.1) fun r2 =>
          N.ite (N.catFits r2 (N.lit [47]))
            (
              N.bind (spec_FormatInt x0.2.1) fun r3 =>
                N.ite (N.catFits (N.cat r2 (N.lit [47])) r3)
                  (
                    N.cond (N.ne x0.2.2 0)
                      (
                        N.ite (N.catFits (N.cat (N.cat r2 (N.lit [47])) r3) (N.lit [63]))
                          (
                            N.bind (spec_FormatInt x0.2.2) fun r4 =>
                              N.ite (N.catFits (N.cat (N.cat (N.cat r2 (N.lit [47])) r3) (N.lit [63])) r4)
                                (some (N.cat (N.cat (N.cat (N.cat r2 (N.lit [47])) r3) (N.lit [63])) r4))
                                none)
                          none)
                      (some (N.cat (N.cat r2 (N.lit [47])) r3)))
                  none)
            none)

noncomputable def spec_ShownText (x0 : Shown) : Option (ByteArray) :=
  N.bind (spec_l1In x0.1 0 2000) fun r1 =>
    N.cond (N.not r1)
      (some N.nostr)
      (
        N.bind (spec_IsAddress x0.2) fun r2 =>
          N.cond (N.not r2)
            (some N.nostr)
            (
              N.bind (spec_FormatInt x0.1) fun r3 =>
                N.ite (N.catFits (N.lit [97, 114, 99, 104, 105, 118, 101, 47]) r3)
                  (
                    N.ite (N.catFits (N.cat (N.lit [97, 114, 99, 104, 105, 118, 101, 47]) r3) (N.lit [47]))
                      (
                        N.bind (spec_AddressText x0.2) fun r4 =>
                          N.ite (N.catFits (N.cat (N.cat (N.lit [97, 114, 99, 104, 105, 118, 101, 47]) r3) (N.lit [47])) r4)
                            (some (N.cat (N.cat (N.cat (N.lit [97, 114, 99, 104, 105, 118, 101, 47]) r3) (N.lit [47])) r4))
                            none)
                      none)
                  none))

noncomputable def impl_InRange (x0 : Int) (x1 : Int) (x2 : Int) : Option (Bool) :=
  N.cond (N.le x1 x0)
    (some (N.le x0 x2))
    (some false)

noncomputable def impl_IsAddress (x0 : Address) : Option (Bool) :=
  N.bind (impl_InRange x0.1 1 9) fun r1 =>
    N.cond r1
      (
        N.bind (impl_InRange x0.2.1 0 99) fun r2 =>
          N.cond r2
            (
              N.bind (impl_InRange x0.2.2 0 99) fun r3 =>
                some r3)
            (some false))
      (some false)

noncomputable def strconv_Itoa (x0 : Int) : Option (ByteArray) :=
  N.itoa x0

noncomputable def impl_FormatInt (x0 : Int) : Option (ByteArray) :=
  N.bind (strconv_Itoa x0) fun r1 =>
    some r1

noncomputable def impl_AddressText (x0 : Address) : Option (ByteArray) :=
  N.bind (impl_IsAddress x0) fun r1 =>
    N.cond (N.not r1)
      (some N.nostr)
      (
        N.bind (impl_FormatInt x0.1) fun r2 =>
          N.ite (N.catFits r2 (N.lit [47]))
            (
              N.bind (impl_FormatInt x0.2.1) fun r3 =>
                N.ite (N.catFits (N.cat r2 (N.lit [47])) r3)
                  (
                    N.cond (N.ne x0.2.2 0)
                      (
                        N.bind (impl_FormatInt x0.2.2) fun r4 =>
                          N.ite (N.catFits (N.lit [63]) r4)
                            (
                              N.ite (N.catFits (N.cat (N.cat r2 (N.lit [47])) r3) (N.cat (N.lit [63]) r4))
                                (some (N.cat (N.cat (N.cat r2 (N.lit [47])) r3) (N.cat (N.lit [63]) r4)))
                                none)
                            none)
                      (some (N.cat (N.cat r2 (N.lit [47])) r3)))
                  none)
            none)

noncomputable def impl_ShownText (x0 : Shown) : Option (ByteArray) :=
  N.bind (impl_InRange x0.1 0 2000) fun r1 =>
    N.cond (N.not r1)
      (some N.nostr)
      (
        N.bind (impl_IsAddress x0.2) fun r2 =>
          N.cond (N.not r2)
            (some N.nostr)
            (
              N.bind (impl_FormatInt x0.1) fun r3 =>
                N.ite (N.catFits (N.lit [97, 114, 99, 104, 105, 118, 101, 47]) r3)
                  (
                    N.ite (N.catFits (N.cat (N.lit [97, 114, 99, 104, 105, 118, 101, 47]) r3) (N.lit [47]))
                      (
                        N.bind (impl_AddressText x0.2) fun r4 =>
                          N.ite (N.catFits (N.cat (N.cat (N.lit [97, 114, 99, 104, 105, 118, 101, 47]) r3) (N.lit [47])) r4)
                            (some (N.cat (N.cat (N.cat (N.lit [97, 114, 99, 104, 105, 118, 101, 47]) r3) (N.lit [47])) r4))
                            none)
                      none)
                  none))

noncomputable def impl_allIn (x0 : List Int) (x1 : Int) (x2 : Int) : Option (Bool) :=
  loopF (fun (s1 : Int) =>
      N.cond (N.lt s1 (N.len x0))
        (
          N.ite (0 ≤ s1)
            (
              N.ite (s1 < N.len x0)
                (
                  N.bind (impl_InRange (N.rd x0 s1 0) x1 x2) fun r1 =>
                    N.cond (N.not r1)
                      (some (.inr false))
                      (some (.inl (N.add .i64 s1 1))))
                none)
            none)
        (some (.inr true)))
    0

noncomputable def impl_IsResource (x0 : Resource) : Option (Bool) :=
  N.cond (N.eq x0.1 1)
    (
      N.cond (N.eq x0.1 1)
        (
          N.cond (N.le (N.len x0.2.1) 6)
            (
              N.bind (impl_allIn x0.2.1 0 255) fun r1 =>
                N.cond r1
                  (some (N.both (N.eq x0.2.2.1 0) (N.both (N.eq x0.2.2.2.1 0) (N.eq x0.2.2.2.2 0))))
                  (some false))
            (some false))
        (
          N.cond (N.eq x0.1 3)
            (
              N.cond (N.eq (N.len x0.2.1) 0)
                (
                  N.bind (impl_IsAddress x0.2.2) fun r2 =>
                    some r2)
                (some false))
            (
              N.cond (N.eq x0.1 4)
                (
                  N.cond (N.eq (N.len x0.2.1) 0)
                    (some (N.both (N.eq x0.2.2.1 0) (N.both (N.eq x0.2.2.2.1 0) (N.eq x0.2.2.2.2 0))))
                    (some false))
                (some false))))
    (
      N.cond (N.eq x0.1 2)
        (
          N.cond (N.le (N.len x0.2.1) 6)
            (
              N.bind (impl_allIn x0.2.1 0 255) fun r3 =>
                N.cond r3
                  (some (N.both (N.eq x0.2.2.1 0) (N.both (N.eq x0.2.2.2.1 0) (N.eq x0.2.2.2.2 0))))
                  (some false))
            (some false))
        (
          N.cond (N.eq x0.1 3)
            (
              N.cond (N.eq (N.len x0.2.1) 0)
                (
                  N.bind (impl_IsAddress x0.2.2) fun r4 =>
                    some r4)
                (some false))
            (
              N.cond (N.eq x0.1 4)
                (
                  N.cond (N.eq (N.len x0.2.1) 0)
                    (some (N.both (N.eq x0.2.2.1 0) (N.both (N.eq x0.2.2.2.1 0) (N.eq x0.2.2.2.2 0))))
                    (some false))
                (some false))))

noncomputable def impl_ShowMove (x0 : Resource) (x1 : Int) : Option (ByteArray) :=
  N.bind (impl_IsResource x0) fun r1 =>
    N.cond (N.not r1)
      (some N.nostr)
      (
        N.cond (N.ne x0.1 3)
          (some N.nostr)
          (
            N.bind (impl_ShownText (x1, x0.2.2)) fun r2 =>
              some r2))

noncomputable def spec_ParseInt (x0 : ByteArray) : Option (Int × Bool) :=
  N.bind (spec_l1In (N.slen x0) 1 13) fun r1 =>
    N.cond (N.not r1)
      (some (0, false))
      (
        loopF (fun (s1 : Int × Int) =>
            N.cond (N.lt s1.2 (N.slen x0))
              (
                N.ite (0 ≤ s1.2)
                  (
                    N.ite (s1.2 < N.slen x0)
                      (
                        N.bind (spec_l1In (N.conv .i64 (N.bt x0 s1.2)) 48 57) fun r2 =>
                          N.cond (N.not r2)
                            (some (.inr (0, false)))
                            (
                              N.ite (0 ≤ s1.2)
                                (
                                  N.ite (s1.2 < N.slen x0)
                                    (some (.inl (N.add .i64 (N.mul .i64 10 s1.1) (N.conv .i64 (N.sub .u8 (N.bt x0 s1.2) 48)), N.add .i64 s1.2 1)))
                                    none)
                                none))
                      none)
                  none)
              (
                Option.map Sum.inr
                  (
                    N.cond (N.gt s1.1 1000000000000)
                      (some (0, false))
                      (
                        N.bind (spec_FormatInt s1.1) fun r3 =>
                          N.cond (N.neS r3 x0)
                            (some (0, false))
                            (some (s1.1, true))))))
          (0, 0))

noncomputable def spec_ParseAddress (x0 : ByteArray) : Option (Address × Bool) :=
  loopF (fun (s1 : Int × Int × List ByteArray) =>
      N.cond (N.lt s1.2.1 (N.slen x0))
        (
          N.ite (0 ≤ s1.2.1)
            (
              N.ite (s1.2.1 < N.slen x0)
                (
                  N.cond (N.eq (N.bt x0 s1.2.1) 47)
                    (
                      N.cond (N.eq s1.1 0)
                        (some (.inl (N.add .i64 s1.1 1, N.add .i64 s1.2.1 1, s1.2.2)))
                        (
                          N.ite (0 ≤ s1.2.1)
                            (
                              N.ite (s1.2.1 < N.slen x0)
                                (
                                  N.cond (N.eq (N.bt x0 s1.2.1) 63)
                                    (
                                      N.cond (N.eq s1.1 1)
                                        (some (.inl (N.add .i64 s1.1 1, N.add .i64 s1.2.1 1, s1.2.2)))
                                        (
                                          N.ite (0 ≤ s1.1)
                                            (
                                              N.ite (s1.1 < N.len s1.2.2)
                                                (
                                                  N.ite (0 ≤ s1.2.1)
                                                    (
                                                      N.ite (s1.2.1 ≤ N.add .i64 s1.2.1 1)
                                                        (
                                                          N.ite (N.add .i64 s1.2.1 1 ≤ N.slen x0)
                                                            (
                                                              N.ite (N.catFits (N.rd s1.2.2 s1.1 N.nostr) (N.scut x0 s1.2.1 (N.add .i64 s1.2.1 1)))
                                                                (
                                                                  N.ite (0 ≤ s1.1)
                                                                    (
                                                                      N.ite (s1.1 < N.len s1.2.2)
                                                                        (some (.inl (s1.1, N.add .i64 s1.2.1 1, N.set s1.2.2 s1.1 (N.cat (N.rd s1.2.2 s1.1 N.nostr) (N.scut x0 s1.2.1 (N.add .i64 s1.2.1 1))))))
                                                                        none)
                                                                    none)
                                                                none)
                                                            none)
                                                        none)
                                                    none)
                                                none)
                                            none))
                                    (
                                      N.ite (0 ≤ s1.1)
                                        (
                                          N.ite (s1.1 < N.len s1.2.2)
                                            (
                                              N.ite (0 ≤ s1.2.1)
                                                (
                                                  N.ite (s1.2.1 ≤ N.add .i64 s1.2.1 1)
                                                    (
                                                      N.ite (N.add .i64 s1.2.1 1 ≤ N.slen x0)
                                                        (
                                                          N.ite (N.catFits (N.rd s1.2.2 s1.1 N.nostr) (N.scut x0 s1.2.1 (N.add .i64 s1.2.1 1)))
                                                            (
                                                              N.ite (0 ≤ s1.1)
                                                                (
                                                                  N.ite (s1.1 < N.len s1.2.2)
                                                                    (some (.inl (s1.1, N.add .i64 s1.2.1 1, N.set s1.2.2 s1.1 (N.cat (N.rd s1.2.2 s1.1 N.nostr) (N.scut x0 s1.2.1 (N.add .i64 s1.2.1 1))))))
                                                                    none)
                                                                none)
                                                            none)
                                                        none)
                                                    none)
                                                none)
                                            none)
                                        none))
                                none)
                            none))
                    (
                      N.ite (0 ≤ s1.2.1)
                        (
                          N.ite (s1.2.1 < N.slen x0)
                            (
                              N.cond (N.eq (N.bt x0 s1.2.1) 63)
                                (
                                  N.cond (N.eq s1.1 1)
                                    (some (.inl (N.add .i64 s1.1 1, N.add .i64 s1.2.1 1, s1.2.2)))
                                    (
                                      N.ite (0 ≤ s1.1)
                                        (
                                          N.ite (s1.1 < N.len s1.2.2)
                                            (
                                              N.ite (0 ≤ s1.2.1)
                                                (
                                                  N.ite (s1.2.1 ≤ N.add .i64 s1.2.1 1)
                                                    (
                                                      N.ite (N.add .i64 s1.2.1 1 ≤ N.slen x0)
                                                        (
                                                          N.ite (N.catFits (N.rd s1.2.2 s1.1 N.nostr) (N.scut x0 s1.2.1 (N.add .i64 s1.2.1 1)))
                                                            (
                                                              N.ite (0 ≤ s1.1)
                                                                (
                                                                  N.ite (s1.1 < N.len s1.2.2)
                                                                    (some (.inl (s1.1, N.add .i64 s1.2.1 1, N.set s1.2.2 s1.1 (N.cat (N.rd s1.2.2 s1.1 N.nostr) (N.scut x0 s1.2.1 (N.add .i64 s1.2.1 1))))))
                                                                    none)
                                                                none)
                                                            none)
                                                        none)
                                                    none)
                                                none)
                                            none)
                                        none))
                                (
                                  N.ite (0 ≤ s1.1)
                                    (
                                      N.ite (s1.1 < N.len s1.2.2)
                                        (
                                          N.ite (0 ≤ s1.2.1)
                                            (
                                              N.ite (s1.2.1 ≤ N.add .i64 s1.2.1 1)
                                                (
                                                  N.ite (N.add .i64 s1.2.1 1 ≤ N.slen x0)
                                                    (
                                                      N.ite (N.catFits (N.rd s1.2.2 s1.1 N.nostr) (N.scut x0 s1.2.1 (N.add .i64 s1.2.1 1)))
                                                        (
                                                          N.ite (0 ≤ s1.1)
                                                            (
                                                              N.ite (s1.1 < N.len s1.2.2)
                                                                (some (.inl (s1.1, N.add .i64 s1.2.1 1, N.set s1.2.2 s1.1 (N.cat (N.rd s1.2.2 s1.1 N.nostr) (N.scut x0 s1.2.1 (N.add .i64 s1.2.1 1))))))
                                                                none)
                                                            none)
                                                        none)
                                                    none)
                                                none)
                                            none)
                                        none)
                                    none))
                            none)
                        none))
                none)
            none)
        (
          Option.map Sum.inr
            (
              N.ite (0 < N.len s1.2.2)
                (
                  N.bind (spec_ParseInt (N.rd s1.2.2 0 N.nostr)) fun r1 =>
                    N.ite (1 < N.len s1.2.2)
                      (
                        N.bind (spec_ParseInt (N.rd s1.2.2 1 N.nostr)) fun r2 =>
                          N.cond (N.eq s1.1 2)
                            (
                              N.ite (2 < N.len s1.2.2)
                                (
                                  N.bind (spec_ParseInt (N.rd s1.2.2 2 N.nostr)) fun r3 =>
                                    N.cond (N.not r1.2)
                                      (some ((0, 0, 0), false))
                                      (
                                        N.cond (N.not r2.2)
                                          (some ((0, 0, 0), false))
                                          (
                                            N.cond (N.not r3.2)
                                              (some ((0, 0, 0), false))
                                              (
                                                N.bind (spec_AddressText (r1.1, r2.1, r3.1)) fun r4 =>
                                                  N.cond (N.neS r4 x0)
                                                    (some ((0, 0, 0), false))
                                                    (some ((r1.1, r2.1, r3.1), true))))))
                                none)
                            (
                              N.cond (N.not r1.2)
                                (some ((0, 0, 0), false))
                                (
                                  N.cond (N.not r2.2)
                                    (some ((0, 0, 0), false))
                                    (
                                      N.bind (spec_AddressText (r1.1, r2.1, 0)) fun r5 =>
                                        N.cond (N.neS r5 x0)
                                          (some ((0, 0, 0), false))
                                          (some ((r1.1, r2.1, 0), true))))))
                      none)
                none)))
    (0, 0, [N.nostr, N.nostr, N.nostr])

noncomputable def spec_ParseShown (x0 : ByteArray) : Option (Shown × Bool) :=
  N.cond (N.lt (N.slen x0) 9)
    (some ((0, (0, 0, 0)), false))
    (
      N.ite (8 ≤ N.slen x0)
        (
          N.cond (N.neS (N.scut x0 0 8) (N.lit [97, 114, 99, 104, 105, 118, 101, 47]))
            (some ((0, (0, 0, 0)), false))
            (
              loopF (fun (s1 : Int) =>
                  N.cond (N.lt s1 (N.slen x0))
                    (
                      N.ite (0 ≤ s1)
                        (
                          N.ite (s1 < N.slen x0)
                            (
                              N.cond (N.ne (N.bt x0 s1) 47)
                                (some (.inl (N.add .i64 s1 1)))
                                (
                                  Option.map Sum.inr
                                    (
                                      N.cond (N.eq s1 (N.slen x0))
                                        (some ((0, (0, 0, 0)), false))
                                        (
                                          N.ite (8 ≤ s1)
                                            (
                                              N.ite (s1 ≤ N.slen x0)
                                                (
                                                  N.bind (spec_ParseInt (N.scut x0 8 s1)) fun r1 =>
                                                    N.ite (0 ≤ N.add .i64 s1 1)
                                                      (
                                                        N.ite (N.add .i64 s1 1 ≤ N.slen x0)
                                                          (
                                                            N.ite (N.slen x0 ≤ N.slen x0)
                                                              (
                                                                N.bind (spec_ParseAddress (N.scut x0 (N.add .i64 s1 1) (N.slen x0))) fun r2 =>
                                                                  N.cond (N.not r1.2)
                                                                    (some ((0, (0, 0, 0)), false))
                                                                    (
                                                                      N.cond (N.not r2.2)
                                                                        (some ((0, (0, 0, 0)), false))
                                                                        (
                                                                          N.bind (spec_ShownText (r1.1, r2.1)) fun r3 =>
                                                                            N.cond (N.neS r3 x0)
                                                                              (some ((0, (0, 0, 0)), false))
                                                                              (some ((r1.1, r2.1), true)))))
                                                              none)
                                                          none)
                                                      none)
                                                none)
                                            none))))
                            none)
                        none)
                    (
                      Option.map Sum.inr
                        (
                          N.cond (N.eq s1 (N.slen x0))
                            (some ((0, (0, 0, 0)), false))
                            (
                              N.ite (8 ≤ s1)
                                (
                                  N.ite (s1 ≤ N.slen x0)
                                    (
                                      N.bind (spec_ParseInt (N.scut x0 8 s1)) fun r4 =>
                                        N.ite (0 ≤ N.add .i64 s1 1)
                                          (
                                            N.ite (N.add .i64 s1 1 ≤ N.slen x0)
                                              (
                                                N.ite (N.slen x0 ≤ N.slen x0)
                                                  (
                                                    N.bind (spec_ParseAddress (N.scut x0 (N.add .i64 s1 1) (N.slen x0))) fun r5 =>
                                                      N.cond (N.not r4.2)
                                                        (some ((0, (0, 0, 0)), false))
                                                        (
                                                          N.cond (N.not r5.2)
                                                            (some ((0, (0, 0, 0)), false))
                                                            (
                                                              N.bind (spec_ShownText (r4.1, r5.1)) fun r6 =>
                                                                N.cond (N.neS r6 x0)
                                                                  (some ((0, (0, 0, 0)), false))
                                                                  (some ((r4.1, r5.1), true)))))
                                                  none)
                                              none)
                                          none)
                                    none)
                                none))))
                8))
        none)

noncomputable def spec_SeenByScript (x0 : ByteArray) : Option (ByteArray) :=
  N.bind (spec_ParseShown x0) fun r1 =>
    N.cond (N.not r1.2)
      (some N.nostr)
      (
        N.bind (spec_AddressText r1.1.2) fun r2 =>
          some r2)

noncomputable def strings_CutPrefix (x0 : ByteArray) (x1 : ByteArray) : Option (ByteArray × Bool) :=
  N.cutPrefix x0 x1

noncomputable def strings_Cut (x0 : ByteArray) (x1 : ByteArray) : Option (ByteArray × ByteArray × Bool) :=
  N.cutAt x0 x1

noncomputable def impl_ParseInt (x0 : ByteArray) : Option (Int × Bool) :=
  N.cond (N.eq (N.slen x0) 0)
    (some (0, false))
    (
      N.cond (N.gt (N.slen x0) 13)
        (some (0, false))
        (
          loopF (fun (s1 : Int × Int) =>
              N.cond (N.lt s1.2 (N.slen x0))
                (
                  N.ite (0 ≤ s1.2)
                    (
                      N.ite (s1.2 < N.slen x0)
                        (
                          N.cond (N.lt (N.bt x0 s1.2) 48)
                            (some (.inr (0, false)))
                            (
                              N.ite (0 ≤ s1.2)
                                (
                                  N.ite (s1.2 < N.slen x0)
                                    (
                                      N.cond (N.gt (N.bt x0 s1.2) 57)
                                        (some (.inr (0, false)))
                                        (
                                          N.ite (0 ≤ s1.2)
                                            (
                                              N.ite (s1.2 < N.slen x0)
                                                (some (.inl (N.add .i64 (N.mul .i64 s1.1 10) (N.conv .i64 (N.sub .u8 (N.bt x0 s1.2) 48)), N.add .i64 s1.2 1)))
                                                none)
                                            none))
                                    none)
                                none))
                        none)
                    none)
                (
                  Option.map Sum.inr
                    (
                      N.cond (N.gt s1.1 1000000000000)
                        (some (0, false))
                        (
                          N.bind (impl_FormatInt s1.1) fun r1 =>
                            N.cond (N.neS r1 x0)
                              (some (0, false))
                              (some (s1.1, true))))))
            (0, 0)))

noncomputable def impl_ParseAddress (x0 : ByteArray) : Option (Address × Bool) :=
  N.bind (strings_Cut x0 (N.lit [47])) fun r1 =>
    N.bind (strings_Cut r1.2.1 (N.lit [63])) fun r2 =>
      N.bind (impl_ParseInt r1.1) fun r3 =>
        N.bind (impl_ParseInt r2.1) fun r4 =>
          N.bind (impl_ParseInt r2.2.1) fun r5 =>
            N.cond (N.eqS x0 N.nostr)
              (some ((0, 0, 0), false))
              (
                N.bind (impl_AddressText (r3.1, r4.1, r5.1)) fun r6 =>
                  N.cond (N.neS r6 x0)
                    (some ((0, 0, 0), false))
                    (some ((r3.1, r4.1, r5.1), true)))

noncomputable def impl_ParseShown (x0 : ByteArray) : Option (Shown × Bool) :=
  N.bind (strings_CutPrefix x0 (N.lit [97, 114, 99, 104, 105, 118, 101, 47])) fun r1 =>
    N.bind (strings_Cut r1.1 (N.lit [47])) fun r2 =>
      N.bind (impl_ParseInt r2.1) fun r3 =>
        N.bind (impl_ParseAddress r2.2.1) fun r4 =>
          N.cond (N.eqS x0 N.nostr)
            (some ((0, (0, 0, 0)), false))
            (
              N.bind (impl_ShownText (r3.1, r4.1)) fun r5 =>
                N.cond (N.neS r5 x0)
                  (some ((0, (0, 0, 0)), false))
                  (some ((r3.1, r4.1), true)))

noncomputable def impl_SeenByScript (x0 : ByteArray) : Option (ByteArray) :=
  N.bind (impl_ParseShown x0) fun r1 =>
    N.cond (N.not r1.2)
      (some N.nostr)
      (
        N.bind (impl_AddressText r1.1.2) fun r2 =>
          some r2)

noncomputable def impl_StaysInside_1 (x0 : ByteArray) : Option (Bool) :=
  N.bind (impl_ParseShown x0) fun r1 =>
    some (N.not r1.2)

noncomputable def slices_IndexFunc_string_impl_StaysInside_1 (x0 : List ByteArray) : Option (Int) :=
  loopF (fun (s1 : Int) =>
      N.cond (N.lt s1 (N.len x0))
        (
          N.ite (0 ≤ s1)
            (
              N.ite (s1 < N.len x0)
                (
                  N.bind (impl_StaysInside_1 (N.rd x0 s1 N.nostr)) fun r1 =>
                    N.cond r1
                      (some (.inr s1))
                      (some (.inl (N.add .i64 s1 1))))
                none)
            none)
        (some (.inr (-1))))
    0

noncomputable def slices_ContainsFunc_string_impl_StaysInside_1 (x0 : List ByteArray) : Option (Bool) :=
  N.bind (slices_IndexFunc_string_impl_StaysInside_1 x0) fun r1 =>
    some (N.ge r1 0)

noncomputable def impl_StaysInside (x0 : List ByteArray) : Option (Bool) :=
  N.bind (slices_ContainsFunc_string_impl_StaysInside_1 x0) fun r1 =>
    some (N.not r1)

noncomputable def laws_big (x0 : List Int) : Option (Bool) :=
  some (N.gt (N.len x0) 1048576)

noncomputable def spec_l1New (x0 : List Int) : Option (l1Cur) :=
  loopF (fun (s1 : Int × Int) =>
      N.cond (N.lt s1.2 (N.len x0))
        (
          N.cond (N.lt s1.2 4000)
            (
              N.ite (0 ≤ s1.2)
                (
                  N.ite (s1.2 < N.len x0)
                    (some (.inl (N.and .i64 (N.add .i64 (N.add .i64 (N.mul .i64 s1.1 137) (N.conv .i64 (N.rd x0 s1.2 0))) 11) 1073741823, N.add .i64 s1.2 1)))
                    none)
                none)
            (some (.inr (x0, 0, s1.1))))
        (some (.inr (x0, 0, s1.1))))
    (N.add .i64 193017 (N.len x0), 0)

noncomputable def spec_l1Byte (x0 : l1Cur) : Option (Int × l1Cur) :=
  N.cond (N.lt x0.2.1 (N.len x0.1))
    (
      N.ite (0 ≤ x0.2.1)
        (
          N.ite (x0.2.1 < N.len x0.1)
            (some (N.and .i64 (N.add .i64 (N.and .i64 (N.xor .i64 (N.shr .i64 (N.add .i64 (N.mul .i64 x0.2.2 6364136223846793005) 1442695040888963407) 33) (N.shr .i64 (N.add .i64 (N.mul .i64 x0.2.2 6364136223846793005) 1442695040888963407) 47)) 255) (N.conv .i64 (N.rd x0.1 x0.2.1 0))) 255, (x0.1, N.add .i64 x0.2.1 1, N.add .i64 (N.mul .i64 x0.2.2 6364136223846793005) 1442695040888963407)))
            none)
        none)
    (some (N.and .i64 (N.xor .i64 (N.shr .i64 (N.add .i64 (N.mul .i64 x0.2.2 6364136223846793005) 1442695040888963407) 33) (N.shr .i64 (N.add .i64 (N.mul .i64 x0.2.2 6364136223846793005) 1442695040888963407) 47)) 255, (x0.1, x0.2.1, N.add .i64 (N.mul .i64 x0.2.2 6364136223846793005) 1442695040888963407)))

noncomputable def spec_l1Below (x0 : l1Cur) (x1 : Int) : Option (Int × l1Cur) :=
  N.cond (N.le x1 0)
    (some (0, x0))
    (
      N.cond (N.le x1 256)
        (
          N.bind (spec_l1Byte x0) fun r1 =>
            N.ite (x1 = 0)
              none
              (some (N.rem r1.1 x1, r1.2)))
        (
          N.bind (spec_l1Byte x0) fun r2 =>
            N.bind (spec_l1Byte r2.2) fun r3 =>
              N.bind (spec_l1Byte r3.2) fun r4 =>
                N.ite (x1 = 0)
                  none
                  (some (N.rem (N.add .i64 (N.add .i64 (N.mul .i64 r2.1 65536) (N.mul .i64 r3.1 256)) r4.1) x1, r4.2))))

noncomputable def spec_l4Draw (x0 : l1Cur) : Option (Address × l1Cur) :=
  N.bind (spec_l1Below x0 3) fun r1 =>
    N.bind (spec_l1Below r1.2 3) fun r2 =>
      N.bind (spec_l1Below r2.2 3) fun r3 =>
        some ((N.add .i64 1 r1.1, r2.1, r3.1), r3.2)

noncomputable def spec_l1Int (x0 : l1Cur) (x1 : List Int) : Option (Int × l1Cur) :=
  N.bind (spec_l1Below x0 (N.len x1)) fun r1 =>
    N.ite (0 ≤ r1.1)
      (
        N.ite (r1.1 < N.len x1)
          (some (N.rd x1 r1.1 0, r1.2))
          none)
      none

noncomputable def spec_l4Raw (x0 : l1Cur) : Option (Int × l1Cur) :=
  N.bind (spec_l1Int x0 [(-1), 0, 9, 10, 99, 100, 9223372036854775807, (-9223372036854775808)]) fun r1 =>
    some r1

noncomputable def spec_l4Any (x0 : l1Cur) : Option (Address × l1Cur) :=
  N.bind (spec_l4Draw x0) fun r1 =>
    N.bind (spec_l1Below r1.2 9) fun r2 =>
      N.cond (N.eq r2.1 0)
        (
          N.bind (spec_l4Raw r2.2) fun r3 =>
            some ((r3.1, r1.1.2.1, r1.1.2.2), r3.2))
        (
          N.cond (N.eq r2.1 1)
            (
              N.bind (spec_l4Raw r2.2) fun r4 =>
                some ((r1.1.1, r4.1, r1.1.2.2), r4.2))
            (
              N.cond (N.eq r2.1 2)
                (
                  N.bind (spec_l4Raw r2.2) fun r5 =>
                    some ((r1.1.1, r1.1.2.1, r5.1), r5.2))
                (some (r1.1, r2.2))))

noncomputable def spec_DrawShownText (x0 : List Int) : Option (Shown) :=
  N.bind (spec_l1New x0) fun r1 =>
    N.bind (spec_l4Any r1) fun r2 =>
      N.bind (spec_l1Int r2.2 [0, 7, 2000, 2001, (-1)]) fun r3 =>
        some (r3.1, r2.1)

noncomputable def spec_l1Str (x0 : l1Cur) (x1 : List ByteArray) : Option (ByteArray × l1Cur) :=
  N.bind (spec_l1Below x0 (N.len x1)) fun r1 =>
    N.ite (0 ≤ r1.1)
      (
        N.ite (r1.1 < N.len x1)
          (some (N.rd x1 r1.1 N.nostr, r1.2))
          none)
      none

noncomputable def spec_l21Text (x0 : l1Cur) : Option (ByteArray × l1Cur) :=
  N.bind (spec_l1Below x0 30) fun r1 =>
    N.bind (spec_l4Draw r1.2) fun r2 =>
      N.bind (spec_ShownText (r1.1, r2.1)) fun r3 =>
        N.ite (N.catFits (N.lit [120]) r3)
          (
            N.ite (N.catFits r3 (N.lit [47]))
              (
                N.bind (spec_l1Str r2.2 [r3, r3, r3, N.cat (N.lit [120]) r3, N.cat r3 (N.lit [47]), N.lit [97, 114, 99, 104, 105, 118, 101, 47, 48, 55, 47, 49, 47, 50], N.lit [97, 114, 99, 104, 105, 118, 101, 47, 55], N.lit [97, 114, 99, 104, 105, 118, 101, 47], N.nostr, N.lit [97, 114, 99, 104, 105, 118, 101, 47, 50, 48, 48, 49, 47, 49, 47, 50], N.lit [49, 47, 50]]) fun r4 =>
                  some r4)
              none)
          none

noncomputable def spec_DrawParseShown (x0 : List Int) : Option (ByteArray) :=
  N.bind (spec_l1New x0) fun r1 =>
    N.bind (spec_l21Text r1) fun r2 =>
      some r2.1

noncomputable def spec_l5Body (x0 : l1Cur) : Option ((List Int) × l1Cur) :=
  N.bind (spec_l1Below x0 5) fun r1 =>
    loopF (fun (s1 : List Int × Int × (List Int × Int × Int)) =>
        N.cond (N.gt s1.2.1 0)
          (
            N.bind (spec_l1Below s1.2.2 9) fun r2 =>
              N.ite (N.fits s1.1 [r2.1] 8)
                (some (.inl (N.app s1.1 [r2.1], N.sub .i64 s1.2.1 1, r2.2)))
                none)
          (some (.inr (s1.1, s1.2.2))))
      ([], r1.1, r1.2)

noncomputable def spec_l5Draw (x0 : l1Cur) : Option (Int × (List Int) × Int × Int × Int × l1Cur) :=
  N.bind (spec_l1Below x0 6) fun r1 =>
    N.cond (N.eq r1.1 0)
      (
        N.bind (spec_l4Draw r1.2) fun r2 =>
          some (3, [], r2.1.1, r2.1.2.1, r2.1.2.2, r2.2))
      (
        N.cond (N.eq r1.1 1)
          (some (4, [], 0, 0, 0, r1.2))
          (
            N.bind (spec_l1Below r1.2 2) fun r3 =>
              N.bind (spec_l5Body r3.2) fun r4 =>
                some (N.add .i64 1 r3.1, r4.1, 0, 0, 0, r4.2)))

noncomputable def spec_l5Any (x0 : l1Cur) : Option (Int × (List Int) × Int × Int × Int × l1Cur) :=
  N.bind (spec_l5Draw x0) fun r1 =>
    N.bind (spec_l1Below r1.2.2.2.2.2 9) fun r2 =>
      N.cond (N.eq r2.1 0)
        (
          N.bind (spec_l1Int r2.2 [0, 5, 3, 4]) fun r3 =>
            some (r3.1, r1.2.1, r1.2.2.1, r1.2.2.2.1, r1.2.2.2.2.1, r3.2))
        (
          N.cond (N.eq r2.1 1)
            (
              N.bind (spec_l1Int r2.2 [(-1), 255, 256]) fun r4 =>
                N.ite (N.fits r1.2.1 [r4.1] 8)
                  (some (r1.1, N.app r1.2.1 [r4.1], r1.2.2.1, r1.2.2.2.1, r1.2.2.2.2.1, r4.2))
                  none)
            (
              N.cond (N.eq r2.1 2)
                (some (r1.1, [1, 2, 3, 4, 5, 6, 7], r1.2.2.1, r1.2.2.2.1, r1.2.2.2.2.1, r2.2))
                (
                  N.cond (N.eq r2.1 3)
                    (
                      N.bind (spec_l4Any r2.2) fun r5 =>
                        some (r1.1, r1.2.1, r5.1.1, r5.1.2.1, r5.1.2.2, r5.2))
                    (some (r1.1, r1.2.1, r1.2.2.1, r1.2.2.2.1, r1.2.2.2.2.1, r2.2)))))

noncomputable def spec_l1Once (x0 : l1Cur) (x1 : Int) : Option (Bool × l1Cur) :=
  N.bind (spec_l1Below x0 x1) fun r1 =>
    some (N.eq r1.1 0, r1.2)

noncomputable def spec_DrawShowMove (x0 : List Int) : Option (Int × (List Int) × Int × Int × Int × Int) :=
  N.bind (spec_l1New x0) fun r1 =>
    N.bind (spec_l5Any r1) fun r2 =>
      N.bind (spec_l1Once r2.2.2.2.2.2 2) fun r3 =>
        N.cond r3.1
          (
            N.bind (spec_l4Draw r3.2) fun r4 =>
              N.bind (spec_l1Int r4.2 [0, 9, 2001]) fun r5 =>
                some (3, [], r4.1.1, r4.1.2.1, r4.1.2.2, r5.1))
          (
            N.bind (spec_l1Int r3.2 [0, 9, 2001]) fun r6 =>
              some (r2.1, r2.2.1, r2.2.2.1, r2.2.2.2.1, r2.2.2.2.2.1, r6.1))

noncomputable def laws_FnShown (x0 : List Int) : Option (Bool) :=
  N.bind (laws_big x0) fun r1 =>
    N.cond r1
      (some true)
      (
        N.bind (spec_DrawShownText x0) fun r2 =>
          N.bind (impl_ShownText r2) fun r3 =>
            N.bind (spec_ShownText r2) fun r4 =>
              N.cond (N.neS r3 r4)
                (some false)
                (
                  N.bind (impl_ParseShown r3) fun r5 =>
                    N.cond (N.neB r5.2 (N.neS r3 N.nostr))
                      (some false)
                      (
                        N.cond r5.2
                          (
                            N.cond (N.not (N.both (N.eq r5.1.1 r2.1) (N.both (N.eq r5.1.2.1 r2.2.1) (N.both (N.eq r5.1.2.2.1 r2.2.2.1) (N.eq r5.1.2.2.2 r2.2.2.2)))))
                              (some false)
                              (
                                N.bind (impl_SeenByScript r3) fun r6 =>
                                  N.bind (impl_AddressText r2.2) fun r7 =>
                                    N.cond (N.neS r6 r7)
                                      (some false)
                                      (
                                        N.bind (spec_DrawParseShown x0) fun r8 =>
                                          N.bind (impl_ParseShown r8) fun r9 =>
                                            N.cond r9.2
                                              (
                                                N.bind (impl_ShownText r9.1) fun r10 =>
                                                  N.cond (N.neS r10 r8)
                                                    (some false)
                                                    (
                                                      N.bind (impl_StaysInside [r8]) fun r11 =>
                                                        N.cond (N.neB r9.2 r11)
                                                          (some false)
                                                          (
                                                            N.bind (impl_SeenByScript r8) fun r12 =>
                                                              N.cond (N.neB r9.2 (N.neS r12 N.nostr))
                                                                (some false)
                                                                (
                                                                  N.bind (spec_DrawShowMove x0) fun r13 =>
                                                                    N.bind (impl_ShowMove (r13.1, r13.2.1, (r13.2.2.1, r13.2.2.2.1, r13.2.2.2.2.1)) r13.2.2.2.2.2) fun r14 =>
                                                                      N.bind (impl_IsResource (r13.1, r13.2.1, (r13.2.2.1, r13.2.2.2.1, r13.2.2.2.2.1))) fun r15 =>
                                                                        N.cond r15
                                                                          (
                                                                            N.cond (N.eq r13.1 3)
                                                                              (
                                                                                N.cond (N.ge r13.2.2.2.2.2 0)
                                                                                  (
                                                                                    N.cond (N.eqB (N.neS r14 N.nostr) (N.le r13.2.2.2.2.2 2000))
                                                                                      (
                                                                                        N.cond (N.eqS r14 N.nostr)
                                                                                          (some true)
                                                                                          (
                                                                                            N.bind (impl_StaysInside [r14]) fun r16 =>
                                                                                              some r16))
                                                                                      (some false))
                                                                                  (
                                                                                    N.cond (N.eqB (N.neS r14 N.nostr) false)
                                                                                      (
                                                                                        N.cond (N.eqS r14 N.nostr)
                                                                                          (some true)
                                                                                          (
                                                                                            N.bind (impl_StaysInside [r14]) fun r17 =>
                                                                                              some r17))
                                                                                      (some false)))
                                                                              (
                                                                                N.cond (N.eqB (N.neS r14 N.nostr) false)
                                                                                  (
                                                                                    N.cond (N.eqS r14 N.nostr)
                                                                                      (some true)
                                                                                      (
                                                                                        N.bind (impl_StaysInside [r14]) fun r18 =>
                                                                                          some r18))
                                                                                  (some false)))
                                                                          (
                                                                            N.cond (N.eqB (N.neS r14 N.nostr) false)
                                                                              (
                                                                                N.cond (N.eqS r14 N.nostr)
                                                                                  (some true)
                                                                                  (
                                                                                    N.bind (impl_StaysInside [r14]) fun r19 =>
                                                                                      some r19))
                                                                              (some false))))))
                                              (
                                                N.bind (impl_StaysInside [r8]) fun r20 =>
                                                  N.cond (N.neB r9.2 r20)
                                                    (some false)
                                                    (
                                                      N.bind (impl_SeenByScript r8) fun r21 =>
                                                        N.cond (N.neB r9.2 (N.neS r21 N.nostr))
                                                          (some false)
                                                          (
                                                            N.bind (spec_DrawShowMove x0) fun r22 =>
                                                              N.bind (impl_ShowMove (r22.1, r22.2.1, (r22.2.2.1, r22.2.2.2.1, r22.2.2.2.2.1)) r22.2.2.2.2.2) fun r23 =>
                                                                N.bind (impl_IsResource (r22.1, r22.2.1, (r22.2.2.1, r22.2.2.2.1, r22.2.2.2.2.1))) fun r24 =>
                                                                  N.cond r24
                                                                    (
                                                                      N.cond (N.eq r22.1 3)
                                                                        (
                                                                          N.cond (N.ge r22.2.2.2.2.2 0)
                                                                            (
                                                                              N.cond (N.eqB (N.neS r23 N.nostr) (N.le r22.2.2.2.2.2 2000))
                                                                                (
                                                                                  N.cond (N.eqS r23 N.nostr)
                                                                                    (some true)
                                                                                    (
                                                                                      N.bind (impl_StaysInside [r23]) fun r25 =>
                                                                                        some r25))
                                                                                (some false))
                                                                            (
                                                                              N.cond (N.eqB (N.neS r23 N.nostr) false)
                                                                                (
                                                                                  N.cond (N.eqS r23 N.nostr)
                                                                                    (some true)
                                                                                    (
                                                                                      N.bind (impl_StaysInside [r23]) fun r26 =>
                                                                                        some r26))
                                                                                (some false)))
                                                                        (
                                                                          N.cond (N.eqB (N.neS r23 N.nostr) false)
                                                                            (
                                                                              N.cond (N.eqS r23 N.nostr)
                                                                                (some true)
                                                                                (
                                                                                  N.bind (impl_StaysInside [r23]) fun r27 =>
                                                                                    some r27))
                                                                            (some false)))
                                                                    (
                                                                      N.cond (N.eqB (N.neS r23 N.nostr) false)
                                                                        (
                                                                          N.cond (N.eqS r23 N.nostr)
                                                                            (some true)
                                                                            (
                                                                              N.bind (impl_StaysInside [r23]) fun r28 =>
                                                                                some r28))
                                                                        (some false))))))))
                          (
                            N.bind (spec_DrawParseShown x0) fun r29 =>
                              N.bind (impl_ParseShown r29) fun r30 =>
                                N.cond r30.2
                                  (
                                    N.bind (impl_ShownText r30.1) fun r31 =>
                                      N.cond (N.neS r31 r29)
                                        (some false)
                                        (
                                          N.bind (impl_StaysInside [r29]) fun r32 =>
                                            N.cond (N.neB r30.2 r32)
                                              (some false)
                                              (
                                                N.bind (impl_SeenByScript r29) fun r33 =>
                                                  N.cond (N.neB r30.2 (N.neS r33 N.nostr))
                                                    (some false)
                                                    (
                                                      N.bind (spec_DrawShowMove x0) fun r34 =>
                                                        N.bind (impl_ShowMove (r34.1, r34.2.1, (r34.2.2.1, r34.2.2.2.1, r34.2.2.2.2.1)) r34.2.2.2.2.2) fun r35 =>
                                                          N.bind (impl_IsResource (r34.1, r34.2.1, (r34.2.2.1, r34.2.2.2.1, r34.2.2.2.2.1))) fun r36 =>
                                                            N.cond r36
                                                              (
                                                                N.cond (N.eq r34.1 3)
                                                                  (
                                                                    N.cond (N.ge r34.2.2.2.2.2 0)
                                                                      (
                                                                        N.cond (N.eqB (N.neS r35 N.nostr) (N.le r34.2.2.2.2.2 2000))
                                                                          (
                                                                            N.cond (N.eqS r35 N.nostr)
                                                                              (some true)
                                                                              (
                                                                                N.bind (impl_StaysInside [r35]) fun r37 =>
                                                                                  some r37))
                                                                          (some false))
                                                                      (
                                                                        N.cond (N.eqB (N.neS r35 N.nostr) false)
                                                                          (
                                                                            N.cond (N.eqS r35 N.nostr)
                                                                              (some true)
                                                                              (
                                                                                N.bind (impl_StaysInside [r35]) fun r38 =>
                                                                                  some r38))
                                                                          (some false)))
                                                                  (
                                                                    N.cond (N.eqB (N.neS r35 N.nostr) false)
                                                                      (
                                                                        N.cond (N.eqS r35 N.nostr)
                                                                          (some true)
                                                                          (
                                                                            N.bind (impl_StaysInside [r35]) fun r39 =>
                                                                              some r39))
                                                                      (some false)))
                                                              (
                                                                N.cond (N.eqB (N.neS r35 N.nostr) false)
                                                                  (
                                                                    N.cond (N.eqS r35 N.nostr)
                                                                      (some true)
                                                                      (
                                                                        N.bind (impl_StaysInside [r35]) fun r40 =>
                                                                          some r40))
                                                                  (some false))))))
                                  (
                                    N.bind (impl_StaysInside [r29]) fun r41 =>
                                      N.cond (N.neB r30.2 r41)
                                        (some false)
                                        (
                                          N.bind (impl_SeenByScript r29) fun r42 =>
                                            N.cond (N.neB r30.2 (N.neS r42 N.nostr))
                                              (some false)
                                              (
                                                N.bind (spec_DrawShowMove x0) fun r43 =>
                                                  N.bind (impl_ShowMove (r43.1, r43.2.1, (r43.2.2.1, r43.2.2.2.1, r43.2.2.2.2.1)) r43.2.2.2.2.2) fun r44 =>
                                                    N.bind (impl_IsResource (r43.1, r43.2.1, (r43.2.2.1, r43.2.2.2.1, r43.2.2.2.2.1))) fun r45 =>
                                                      N.cond r45
                                                        (
                                                          N.cond (N.eq r43.1 3)
                                                            (
                                                              N.cond (N.ge r43.2.2.2.2.2 0)
                                                                (
                                                                  N.cond (N.eqB (N.neS r44 N.nostr) (N.le r43.2.2.2.2.2 2000))
                                                                    (
                                                                      N.cond (N.eqS r44 N.nostr)
                                                                        (some true)
                                                                        (
                                                                          N.bind (impl_StaysInside [r44]) fun r46 =>
                                                                            some r46))
                                                                    (some false))
                                                                (
                                                                  N.cond (N.eqB (N.neS r44 N.nostr) false)
                                                                    (
                                                                      N.cond (N.eqS r44 N.nostr)
                                                                        (some true)
                                                                        (
                                                                          N.bind (impl_StaysInside [r44]) fun r47 =>
                                                                            some r47))
                                                                    (some false)))
                                                            (
                                                              N.cond (N.eqB (N.neS r44 N.nostr) false)
                                                                (
                                                                  N.cond (N.eqS r44 N.nostr)
                                                                    (some true)
                                                                    (
                                                                      N.bind (impl_StaysInside [r44]) fun r48 =>
                                                                        some r48))
                                                                (some false)))
                                                        (
                                                          N.cond (N.eqB (N.neS r44 N.nostr) false)
                                                            (
                                                              N.cond (N.eqS r44 N.nostr)
                                                                (some true)
                                                                (
                                                                  N.bind (impl_StaysInside [r44]) fun r49 =>
                                                                    some r49))
                                                            (some false)))))))))

end D
end Go.Sh
set_option linter.unusedVariables false
set_option linter.unusedSimpArgs false
namespace Go.Sh
open Go
/-! ## Loops -/
theorem loopN_det {S R : Type} {step : S → Option (S ⊕ R)} : ∀ {n m : Nat} {s : S} {a b : R}, loopN step n s = some a → loopN step m s = some b → a = b
  | 0, _, _, _, _, h, _ => by simp [loopN] at h
  | _ + 1, 0, _, _, _, _, h => by simp [loopN] at h
  | n + 1, m + 1, s, a, b, h1, h2 => by
    simp only [loopN] at h1 h2
    split at h1
    · cases h1
    · rename_i s' hs; rw [hs] at h2; exact loopN_det h1 h2
    · rename_i r hr; rw [hr] at h2; simp at h1 h2; rw [← h1, ← h2]

theorem loopF_of {S R : Type} {step : S → Option (S ⊕ R)} {s : S} {n : Nat} {r : R} (h : loopN step n s = some r) : loopF step s = some r := by
  have hx : ∃ n r, loopN step n s = some r := ⟨n, r, h⟩
  unfold loopF
  rw [dif_pos hx]
  obtain ⟨m, hm⟩ := Classical.choose_spec hx |> fun h => (⟨_, Classical.choose_spec h⟩ : ∃ v, loopN step (Classical.choose hx) s = some v)
  have := Classical.choose_spec (Classical.choose_spec hx)
  rw [loopN_det this h]

theorem loopF_inr {S R : Type} {step : S → Option (S ⊕ R)} {s : S} {r : R} (h : step s = some (.inr r)) : loopF step s = some r :=
  loopF_of (n := 1) (by simp [loopN, h])

theorem loopF_inl {S R : Type} {step : S → Option (S ⊕ R)} {s s' : S} (h : step s = some (.inl s')) : loopF step s = loopF step s' := by
  by_cases hx : ∃ n r, loopN step n s' = some r
  · obtain ⟨n, r, hn⟩ := hx
    rw [loopF_of hn, loopF_of (n := n + 1) (r := r) (by simp [loopN, h, hn])]
  · have hy : ¬ ∃ n r, loopN step n s = some r := by
      rintro ⟨n, r, hn⟩
      cases n with
      | zero => simp [loopN] at hn
      | succ n => simp only [loopN, h] at hn; exact hx ⟨n, r, hn⟩
    unfold loopF
    rw [dif_neg hx, dif_neg hy]

/-- a loop over a list: what each round does -/
def each {α σ R : Type} (body : α → σ → Option (σ ⊕ R)) (fin : σ → Option R) : List α → σ → Option R
  | [], a => fin a
  | x :: xs, a => match body x a with
    | none => none
    | some (.inl a') => each body fin xs a'
    | some (.inr r) => some r

/-! ## Words -/

section
variable {R α β : Type}
@[simp] theorem bind_some' (x : β) (f : β → Option R) : N.bind (some x) f = f x := rfl

@[simp] theorem cond_true (x y : Option R) : N.cond true x y = x := rfl

@[simp] theorem cond_false (x y : Option R) : N.cond false x y = y := rfl

theorem cond_dec (p : Prop) [Decidable p] (x y : Option R) : N.cond (decide p) x y = if p then x else y := by unfold N.cond; by_cases h : p <;> simp [h]

theorem ite_if (c : Prop) [Decidable c] (x y : Option R) : N.ite c x y = if c then x else y := rfl

theorem nite_pos {c : Prop} [Decidable c] (h : c) (x y : Option R) : N.ite c x y = x := if_pos h

theorem nite_neg {c : Prop} [Decidable c] (h : ¬ c) (x y : Option R) : N.ite c x y = y := if_neg h

theorem lt_d (a b : Int) : N.lt a b = decide (a < b) := rfl

theorem le_d (a b : Int) : N.le a b = decide (a ≤ b) := rfl

theorem gt_d (a b : Int) : N.gt a b = decide (b < a) := rfl

theorem ge_d (a b : Int) : N.ge a b = decide (b ≤ a) := rfl

theorem eq_d (a b : Int) : N.eq a b = decide (a = b) := rfl

theorem neS_d (a b : ByteArray) : N.neS a b = decide (¬ a = b) := by
  unfold N.neS
  by_cases h : a = b
  · subst h; simp
  · have h2 : ¬ a.toList = b.toList := fun e => by
      rw [ByteArray.toList_eq, ByteArray.toList_eq] at e
      obtain ⟨x⟩ := a
      obtain ⟨y⟩ := b
      exact h (congrArg ByteArray.mk (Array.toList_inj.1 e))
    have h3 : (a.toList == b.toList) = false := by rw [Bool.eq_false_iff]; intro e; exact h2 (eq_of_beq e)
    rw [h3]; simp [h]

theorem ne_d (a b : Int) : N.ne a b = decide (¬ a = b) := by
  unfold N.ne; by_cases h : a = b <;> simp [h]

theorem len_d (xs : List α) : N.len xs = (xs.length : Int) := by simp [N.len]

theorem rd_at (xs : List α) (k : Nat) (hk : k < xs.length) (d : α) : N.rd xs (k : Int) d = xs[k] := by
  simp [N.rd, List.getD, hk]

theorem wrap_id {n : Int} (h1 : -9223372036854775808 ≤ n) (h2 : n < 9223372036854775808) : IntKind.i64.wrap n = n := by
  have e1 : ((2 : Int) ^ IntKind.i64.bits) = 18446744073709551616 := by decide
  have e2 : ((2 : Int) ^ (IntKind.i64.bits - 1)) = 9223372036854775808 := by decide
  have e3 : IntKind.i64.signed = true := rfl
  unfold IntKind.wrap
  rw [e1, e2, e3]
  simp only [Bool.true_and, decide_eq_true_eq]
  split <;> omega

theorem add_id {a b : Int} (h1 : -9223372036854775808 ≤ a + b) (h2 : a + b < 9223372036854775808) : N.add .i64 a b = a + b := wrap_id h1 h2

theorem sub_id {a b : Int} (h1 : -9223372036854775808 ≤ a - b) (h2 : a - b < 9223372036854775808) : N.sub .i64 a b = a - b := wrap_id h1 h2

theorem mul_id {a b : Int} (h1 : -9223372036854775808 ≤ a * b) (h2 : a * b < 9223372036854775808) : N.mul .i64 a b = a * b := wrap_id h1 h2

theorem next_id {k n : Nat} (hk : k < n) (hn : (n : Int) < 9223372036854775808) : N.add .i64 (k : Int) 1 = ((k + 1 : Nat) : Int) := by
  rw [add_id (by omega) (by omega)]; omega

end
end Go.Sh
set_option linter.unusedVariables false
set_option linter.unusedSimpArgs false
namespace Go.Sh
open Go
/-! ## Bounds of data -/
class Data (α : Type) where
  bd : α → Prop
  ok : α → Prop
  le : ∀ x, ok x → bd x

open Data
instance : Data Int := ⟨fun x => -9223372036854775808 ≤ x ∧ x < 9223372036854775808, fun x => -9223372036854775808 ≤ x ∧ x < 9223372036854775808, fun _ h => h⟩

instance : Data Bool := ⟨fun _ => True, fun _ => True, fun _ h => h⟩

instance : Data ByteArray := ⟨fun s => s.size ≤ 4611686018427387904, fun s => s.size ≤ 4611686018427387904, fun _ h => h⟩

instance {α β : Type} [Data α] [Data β] : Data (α × β) := ⟨fun x => bd x.1 ∧ bd x.2, fun x => ok x.1 ∧ ok x.2, fun x h => ⟨le _ h.1, le _ h.2⟩⟩

instance {α : Type} [Data α] : Data (List α) := ⟨fun xs => xs.length ≤ 4611686018427387904 ∧ ∀ x ∈ xs, bd x, fun xs => xs.length ≤ 1048576 ∧ ∀ x ∈ xs, ok x, fun xs h => ⟨by omega, fun x hx => le x (h.2 x hx)⟩⟩

section
variable {α : Type} [Data α]
theorem Data.ok.sub {xs ys : List α} (h : ok xs) (hs : ys.Sublist xs) : ok ys := ⟨Nat.le_trans hs.length_le h.1, fun x hx => h.2 x (hs.subset hx)⟩

end
/-! ## Words, once more -/

section
variable {R α β : Type}
theorem neB_d (a b : Bool) : N.neB a b = decide (¬ a = b) := by cases a <;> cases b <;> rfl

theorem not_d (p : Prop) [Decidable p] : N.not (decide p) = decide (¬ p) := by unfold N.not; by_cases h : p <;> simp [h]

theorem both_d (p q : Prop) [Decidable p] [Decidable q] : N.both (decide p) (decide q) = decide (p ∧ q) := by unfold N.both; by_cases h : p <;> by_cases h' : q <;> simp [h, h']

end
end Go.Sh
set_option linter.unusedVariables false
set_option linter.unusedSimpArgs false
set_option synthInstance.maxSize 100000
set_option maxHeartbeats 1000000
namespace Go.Sh
open Go Data
namespace D
end D
end Go.Sh
set_option linter.unusedVariables false
set_option linter.unusedSimpArgs false
set_option synthInstance.maxSize 100000
set_option maxHeartbeats 1000000
namespace Go.Sh
open Go Data
namespace D
theorem spec_l1In_is (a b c : Int) : spec_l1In a b c = some (decide (b ≤ a ∧ a ≤ c)) := by
  unfold spec_l1In
  simp only [ge_d, le_d, cond_dec]
  by_cases h1 : b ≤ a <;> by_cases h2 : a ≤ c <;> simp [h1, h2]

theorem impl_InRange_is (a b c : Int) : impl_InRange a b c = some (decide (b ≤ a ∧ a ≤ c)) := by
  unfold impl_InRange
  simp only [ge_d, le_d, cond_dec]
  by_cases h1 : b ≤ a <;> by_cases h2 : a ≤ c <;> simp [h1, h2]

theorem rem_pos {a b : Int} (ha : 0 ≤ a) : N.rem a b = a % b := by unfold N.rem; exact Int.tmod_eq_emod_of_nonneg ha

end D
end Go.Sh
set_option linter.unusedVariables false
set_option linter.unusedSimpArgs false
set_option synthInstance.maxSize 100000
set_option maxHeartbeats 1000000
namespace Go.Sh
open Go Data
/-! ## Loops that look for something -/
theorem loop_find {α S R : Type} {step : S → Option (S ⊕ R)} (xs : List α) (emb : Nat → S) (p : α → Option R) (r0 : R)
    (hstep : ∀ (k : Nat) (hk : k < xs.length), step (emb k) = some (match p xs[k] with | some r => .inr r | none => .inl (emb (k + 1))))
    (hend : step (emb xs.length) = some (.inr r0)) : loopF step (emb 0) = some ((xs.findSome? p).getD r0) := by
  have key : ∀ (m k : Nat), k + m = xs.length → loopF step (emb k) = some (((xs.drop k).findSome? p).getD r0) := by
    intro m
    induction m with
    | zero =>
      intro k hk
      have hk' : k = xs.length := by omega
      subst hk'
      rw [loopF_inr hend, List.drop_length]; rfl
    | succ m ih =>
      intro k hk
      have hlt : k < xs.length := by omega
      rw [List.drop_eq_getElem_cons hlt, List.findSome?_cons]
      cases hp : p xs[k] with
      | none => rw [loopF_inl (s' := emb (k + 1)) (by rw [hstep k hlt, hp]), ih (k + 1) (by omega)]
      | some r => rw [loopF_inr (r := r) (by rw [hstep k hlt, hp])]; rfl
  simpa using key xs.length 0 (by omega)

theorem loop_all {α S : Type} {step : S → Option (S ⊕ Bool)} (xs : List α) (emb : Nat → S) (p : α → Bool)
    (hstep : ∀ (k : Nat) (hk : k < xs.length), step (emb k) = some (if p xs[k] = true then .inl (emb (k + 1)) else .inr false))
    (hend : step (emb xs.length) = some (.inr true)) : loopF step (emb 0) = some (xs.all p) := by
  rw [loop_find xs emb (fun x => if p x = true then none else some false) true (fun k hk => by rw [hstep k hk]; split <;> rfl) hend]
  congr 1
  clear hstep hend
  induction xs with
  | nil => rfl
  | cons y ys ih2 => rw [List.findSome?_cons, List.all_cons]; cases hp : p y <;> simp [ih2]

namespace D
/-! ## Counts -/

end D
end Go.Sh
set_option linter.unusedVariables false
set_option linter.unusedSimpArgs false
set_option synthInstance.maxSize 100000
set_option maxHeartbeats 1000000
namespace Go.Sh
open Go Data
theorem fitsN {α : Type} {xs ys : List α} {b : Nat} (h : xs.length + ys.length ≤ 100000000) (hb : b ≤ 1000000) : N.fits xs ys b := by
  unfold N.fits
  exact Nat.le_trans (Nat.mul_le_mul h hb) (by decide)

namespace D
theorem addr_eq (x y : Address) : N.both (N.eq x.1 y.1) (N.both (N.eq x.2.1 y.2.1) (N.eq x.2.2 y.2.2)) = decide (x = y) := by
  obtain ⟨a, b, c⟩ := x; obtain ⟨d, e, f⟩ := y
  simp only [eq_d, both_d, Prod.mk.injEq]

end D
end Go.Sh
set_option linter.unusedVariables false
set_option linter.unusedSimpArgs false
set_option synthInstance.maxSize 100000
set_option maxHeartbeats 1000000
namespace Go.Sh
open Go Data
namespace D
end D
end Go.Sh
set_option linter.unusedVariables false
set_option linter.unusedSimpArgs false
set_option synthInstance.maxSize 100000
set_option maxHeartbeats 1000000
namespace Go.Sh
open Go Data
namespace D
end D
end Go.Sh
set_option linter.unusedVariables false
set_option linter.unusedSimpArgs false
set_option synthInstance.maxSize 100000
set_option maxHeartbeats 1000000
namespace Go.Sh
open Go Data
namespace D
end D
end Go.Sh
set_option linter.unusedVariables false
set_option linter.unusedSimpArgs false
set_option synthInstance.maxSize 100000
set_option maxHeartbeats 1000000
namespace Go.Sh
open Go Data
namespace D
end D
end Go.Sh
set_option linter.unusedVariables false
set_option linter.unusedSimpArgs false
set_option synthInstance.maxSize 100000
set_option maxHeartbeats 1000000
namespace Go.Sh
open Go Data
namespace D
/-! ### Ranges of lists -/
theorem impl_allIn_is {l : List Int} (h : l.length ≤ 4611686018427387904) (a b : Int) : impl_allIn l a b = some (l.all fun x => decide (a ≤ x ∧ x ≤ b)) := by
  refine loop_all l (fun k => ((k : Nat) : Int)) (fun x => decide (a ≤ x ∧ x ≤ b)) (fun k hk => ?_) ?_
  · have h0 : (0 : Int) ≤ (k : Int) := by omega
    have h1 : (k : Int) < (l.length : Int) := by omega
    simp only [ite_if]; simp only [lt_d, len_d, cond_dec, h0, h1, if_true, rd_at l k hk, impl_InRange_is, bind_some', not_d, next_id hk (by omega), decide_eq_true_eq]
    by_cases c : a ≤ l[k] ∧ l[k] ≤ b
    · rw [if_neg (by simpa using c), if_pos c]
    · rw [if_pos c, if_neg c]
  · simp only [lt_d, len_d, cond_dec]; rw [if_neg (by omega)]

/-! ### Addresses, resources, captures -/
def addrP (a : Address) : Bool := decide (1 ≤ a.1 ∧ a.1 ≤ 9) && decide (0 ≤ a.2.1 ∧ a.2.1 ≤ 99) && decide (0 ≤ a.2.2 ∧ a.2.2 ≤ 99)

theorem spec_IsAddress_is (a : Address) : spec_IsAddress a = some (addrP a) := by
  unfold spec_IsAddress addrP
  simp only [spec_l1In_is, bind_some']
  cases decide (1 ≤ a.1 ∧ a.1 ≤ 9) <;> cases decide (0 ≤ a.2.1 ∧ a.2.1 ≤ 99) <;> simp

theorem impl_IsAddress_is (a : Address) : impl_IsAddress a = some (addrP a) := by
  unfold impl_IsAddress addrP
  simp only [impl_InRange_is, bind_some']
  cases decide (1 ≤ a.1 ∧ a.1 ≤ 9) <;> cases decide (0 ≤ a.2.1 ∧ a.2.1 ≤ 99) <;> simp

def bytesP (l : List Int) : Bool := l.all fun x => decide (0 ≤ x ∧ x ≤ 255)

def resP (r : Resource) : Bool :=
  if r.1 = 1 ∨ r.1 = 2 then decide (r.2.1.length ≤ 6) && bytesP r.2.1 && decide (r.2.2 = (0, 0, 0))
  else if r.1 = 3 then decide (r.2.1 = []) && addrP r.2.2
  else if r.1 = 4 then decide (r.2.1 = []) && decide (r.2.2 = (0, 0, 0)) else false

theorem zero_addr (a : Address) : N.both (N.eq a.1 0) (N.both (N.eq a.2.1 0) (N.eq a.2.2 0)) = decide (a = (0, 0, 0)) := addr_eq a (0, 0, 0)

theorem len_zero (l : List Int) : N.eq (N.len l) 0 = decide (l = []) := by
  rw [eq_d, len_d]; cases l <;> simp; omega

theorem impl_IsResource_is {r : Resource} (h : r.2.1.length ≤ 4611686018427387904) : impl_IsResource r = some (resP r) := by
  unfold impl_IsResource resP bytesP
  simp only [impl_allIn_is h, impl_IsAddress_is, bind_some', zero_addr, len_zero]
  simp only [eq_d, le_d, len_d, cond_dec]
  by_cases c1 : r.1 = 1
  · simp only [c1, if_true, true_or]
    by_cases c5 : r.2.1.length ≤ 6
    · rw [if_pos (by omega)]
      cases r.2.1.all fun x => decide (0 ≤ x ∧ x ≤ 255) <;> simp [c5]
    · rw [if_neg (by omega)]; simp [c5]
  · rw [if_neg c1]
    by_cases c2 : r.1 = 2
    · simp only [c2, if_true, or_true]
      by_cases c5 : r.2.1.length ≤ 6
      · rw [if_pos (by omega)]
        cases r.2.1.all fun x => decide (0 ≤ x ∧ x ≤ 255) <;> simp [c5]
      · rw [if_neg (by omega)]; simp [c5]
    · simp only [c1, c2, if_false, or_self]
      by_cases c3 : r.1 = 3
      · simp only [c3, if_true]
        by_cases c6 : r.2.1 = [] <;> simp [c6]
      · simp only [c3, if_false]
        by_cases c4 : r.1 = 4
        · simp only [c4, if_true]
          by_cases c6 : r.2.1 = [] <;> simp [c6]
        · simp only [c4, if_false]

end D
end Go.Sh
set_option linter.unusedVariables false
set_option linter.unusedSimpArgs false
set_option synthInstance.maxSize 100000
set_option maxHeartbeats 1000000
namespace Go.Sh
open Go Data
namespace D
end D
end Go.Sh
set_option linter.unusedVariables false
set_option linter.unusedSimpArgs false
set_option synthInstance.maxSize 100000
set_option maxHeartbeats 1000000
namespace Go.Sh
open Go Data
namespace D
end D
end Go.Sh
set_option linter.unusedVariables false
set_option linter.unusedSimpArgs false
set_option synthInstance.maxSize 100000
set_option maxHeartbeats 1000000
namespace Go.Sh
open Go Data
/-! ## What is drawn: it comes back, and keeps its bounds -/
def Gets {α : Type} (P : α → Prop) (r : Option α) : Prop := ∃ x, r = some x ∧ P x

section
variable {α β S R : Type} {P : α → Prop} {Q : R → Prop}
theorem Gets.pure {x : R} (h : Q x) : Gets Q (some x) := ⟨x, rfl, h⟩

theorem Gets.bind {x : Option α} {f : α → Option R} (h : Gets P x) (hf : ∀ a, P a → Gets Q (f a)) : Gets Q (N.bind x f) := by
  obtain ⟨a, rfl, ha⟩ := h; exact hf a ha

theorem Gets.cond {b : Bool} {x y : Option R} (h1 : b = true → Gets Q x) (h2 : b = false → Gets Q y) : Gets Q (N.cond b x y) := by
  unfold N.cond; cases b
  · exact h2 rfl
  · exact h1 rfl

theorem Gets.ite {c : Prop} [Decidable c] {x y : Option R} (hc : c) (h : Gets Q x) : Gets Q (N.ite c x y) := by rw [nite_pos hc]; exact h

theorem Gets.nite {c : Prop} [Decidable c] {x y : Option R} (hc : ¬ c) (h : Gets Q y) : Gets Q (N.ite c x y) := by rw [nite_neg hc]; exact h

theorem Gets.mono {Q' : R → Prop} {x : Option R} (h : Gets Q x) (hq : ∀ a, Q a → Q' a) : Gets Q' x := by
  obtain ⟨a, e, ha⟩ := h; exact ⟨a, e, hq a ha⟩

theorem Gets.loop {step : S → Option (S ⊕ R)} (I : S → Prop) (m : S → Nat)
    (hs : ∀ s, I s → Gets (fun r => match r with | .inl s' => I s' ∧ m s' < m s | .inr r => Q r) (step s)) (s : S) (h : I s) : Gets Q (loopF step s) := by
  generalize hn : m s = n
  induction n using Nat.strongRecOn generalizing s with
  | ind n ih =>
    obtain ⟨r, e, hr⟩ := hs s h
    cases r with
    | inl s' => rw [loopF_inl e]; exact ih (m s') (by rw [← hn]; exact hr.2) s' hr.1 rfl
    | inr r => exact ⟨r, loopF_inr e, hr⟩

end
theorem wrap_in (n : Int) : -9223372036854775808 ≤ IntKind.i64.wrap n ∧ IntKind.i64.wrap n < 9223372036854775808 := by
  have e1 : ((2 : Int) ^ IntKind.i64.bits) = 18446744073709551616 := by decide
  have e2 : ((2 : Int) ^ (IntKind.i64.bits - 1)) = 9223372036854775808 := by decide
  have e3 : IntKind.i64.signed = true := rfl
  unfold IntKind.wrap
  rw [e1, e2, e3]
  simp only [Bool.true_and, decide_eq_true_eq]
  split <;> omega

theorem ok_add (a b : Int) : ok (N.add .i64 a b) := wrap_in _

theorem ok_num {x : Int} (h1 : -9223372036854775808 ≤ x) (h2 : x < 9223372036854775808) : ok x := ⟨h1, h2⟩

theorem ok_below {x n : Int} (h : 0 ≤ x ∧ x < n) (hn : n ≤ 1000000000) : ok x := ⟨by omega, by omega⟩

theorem and_255 (a : Int) : 0 ≤ N.and .i64 a 255 ∧ N.and .i64 a 255 ≤ 255 := by
  have h : (BitVec.ofInt 64 a &&& BitVec.ofInt 64 255).toNat ≤ 255 := by
    rw [BitVec.toNat_and]; exact Nat.and_le_right
  have e : N.and .i64 a 255 = (((BitVec.ofInt 64 a &&& BitVec.ofInt 64 255).toNat : Nat) : Int) := by
    show IntKind.i64.wrap _ = _
    exact wrap_id (by show _ ≤ (((BitVec.ofInt 64 a &&& BitVec.ofInt 64 255).toNat : Nat) : Int); omega) (by show (((BitVec.ofInt 64 a &&& BitVec.ofInt 64 255).toNat : Nat) : Int) < _; omega)
  rw [e]; omega

def few {α : Type} [Data α] (n : Nat) (xs : List α) : Prop := xs.length ≤ n ∧ ∀ x ∈ xs, ok x

theorem few.ok {α : Type} [Data α] {n : Nat} {xs : List α} (h : few n xs) (hn : n ≤ 1048576) : ok xs := ⟨Nat.le_trans h.1 hn, h.2⟩

theorem few.app {α : Type} [Data α] {n m : Nat} {xs : List α} {x : α} (h : few n xs) (hx : Data.ok x) (hm : n + 1 ≤ m) : few m (N.app xs [x]) :=
  ⟨by have := h.1; simp [N.app]; omega, fun y hy => by
    rcases List.mem_append.1 hy with hy | hy
    · exact h.2 y hy
    · simp at hy; subst hy; exact hx⟩

theorem few.set {α : Type} [Data α] {n : Nat} {xs : List α} {x : α} {i : Int} (h : few n xs) (hx : Data.ok x) : few n (N.set xs i x) :=
  ⟨by have := h.1; simp [N.set]; omega, fun y hy => by
    rcases List.mem_or_eq_of_mem_set hy with hy | hy
    · exact h.2 y hy
    · subst hy; exact hx⟩

theorem few.rd {α : Type} [Data α] {n : Nat} {xs : List α} {i : Int} {d : α} (h : few n xs) (hd : Data.ok d) : Data.ok (N.rd xs i d) := by
  unfold N.rd
  rw [List.getD_eq_getElem?_getD]
  cases e : xs[i.toNat]? with
  | none => exact hd
  | some x => exact h.2 x (List.mem_of_getElem? e)

theorem few.nil {α : Type} [Data α] {n : Nat} : few n ([] : List α) := ⟨by simp, fun _ h => by cases h⟩

/-- count-down loops that add one element each -/
theorem Gets.fill {α C : Type} [Data α] {step : List α × Int × C → Option ((List α × Int × C) ⊕ (List α × C))} {K : C → Prop} {m : Nat} (hm : m ≤ 1000)
    (hs : ∀ xs n c, K c → 0 < n → n ≤ 1000 → few m xs → Gets (fun r => ∃ x c', r = .inl (N.app xs [x], N.sub .i64 n 1, c') ∧ ok x ∧ K c') (step (xs, n, c)))
    (he : ∀ xs n c, n ≤ 0 → step (xs, n, c) = some (.inr (xs, c))) {n : Int} {c : C} (hn0 : 0 ≤ n) (hn : n ≤ m) (hc : K c) :
    Gets (fun r => few m r.1 ∧ K r.2) (loopF step ([], n, c)) := by
  refine Gets.loop (I := fun s => (s.1.length : Int) + s.2.1 ≤ m ∧ 0 ≤ s.2.1 ∧ (∀ x ∈ s.1, ok x) ∧ K s.2.2) (m := fun s => s.2.1.toNat) (fun s h => ?_) _ ⟨by simpa using hn, hn0, fun _ h => (by cases h), hc⟩
  obtain ⟨xs, n, c⟩ := s
  obtain ⟨h1, h2, h3, h4⟩ := h
  simp only at h1 h2 h3 h4
  by_cases hn : 0 < n
  · obtain ⟨r, e, x, c', rfl, hx, hk⟩ := hs xs n c h4 hn (by omega) ⟨by omega, h3⟩
    refine ⟨_, e, ?_⟩
    have e1 : N.sub .i64 n 1 = n - 1 := sub_id (by omega) (by omega)
    simp only [e1]
    refine ⟨⟨by simp [N.app]; omega, by omega, ?_, hk⟩, by omega⟩
    exact (few.app (n := xs.length) ⟨Nat.le_refl _, h3⟩ hx (Nat.le_refl _)).2
  · exact ⟨_, he xs n c (by omega), ⟨by simp only; omega, h3⟩, h4⟩

namespace D
/-! ## The source of bytes -/
def curOk (c : l1Cur) : Prop := 0 ≤ c.2.1 ∧ c.2.1 ≤ (c.1.length : Int) ∧ c.1.length ≤ 1048576

theorem spec_l1New_is {x : List Int} (h : x.length ≤ 1048576) : Gets curOk (spec_l1New x) := by
  refine Gets.loop (I := fun s => 0 ≤ s.2) (m := fun s => x.length - s.2.toNat) (fun s hs => ?_) _ (by show (0 : Int) ≤ 0; omega)
  obtain ⟨a, i⟩ := s
  simp only at hs
  refine Gets.cond (fun h1 => Gets.cond (fun h2 => Gets.ite hs (Gets.ite ?_ (Gets.pure ?_))) fun _ => Gets.pure ⟨by simp only; omega, by simp only; omega, h⟩) fun _ => Gets.pure ⟨by simp only; omega, by simp only; omega, h⟩
  · simpa [N.lt] using h1
  · simp only [lt_d, len_d, decide_eq_true_eq] at h1
    have e : N.add .i64 i 1 = i + 1 := add_id (by omega) (by omega)
    simp only [e]; omega

theorem spec_l1Byte_is {c : l1Cur} (h : curOk c) : Gets (fun r => (0 ≤ r.1 ∧ r.1 ≤ 255) ∧ curOk r.2) (spec_l1Byte c) := by
  obtain ⟨xs, i, s⟩ := c
  obtain ⟨h1, h2, h3⟩ := h
  simp only at h1 h2 h3
  refine Gets.cond (fun h4 => Gets.ite h1 (Gets.ite ?_ (Gets.pure ⟨and_255 _, ?_⟩))) fun _ => Gets.pure ⟨and_255 _, h1, h2, h3⟩
  · simpa [N.lt] using h4
  · simp only [lt_d, len_d, decide_eq_true_eq] at h4
    have e : N.add .i64 i 1 = i + 1 := add_id (by omega) (by omega)
    refine ⟨?_, ?_, h3⟩ <;> simp only [e] <;> omega

theorem spec_l1Below_is {c : l1Cur} (h : curOk c) {n : Int} (h0 : 0 < n) : Gets (fun r => (0 ≤ r.1 ∧ r.1 < n) ∧ curOk r.2) (spec_l1Below c n) := by
  refine Gets.cond (fun h1 => ?_) fun _ => Gets.cond (fun _ => ?_) fun _ => ?_
  · simp only [le_d, decide_eq_true_eq] at h1; omega
  · refine Gets.bind (spec_l1Byte_is h) fun r ⟨h1, h2⟩ => Gets.nite (by omega) (Gets.pure ⟨?_, h2⟩)
    simp only [rem_pos h1.1]; exact ⟨Int.emod_nonneg _ (by omega), Int.emod_lt_of_pos _ h0⟩
  · refine Gets.bind (spec_l1Byte_is h) fun r ⟨h1, h2⟩ => Gets.bind (spec_l1Byte_is h2) fun r3 ⟨h3, h4⟩ => Gets.bind (spec_l1Byte_is h4) fun r4 ⟨h5, h6⟩ => Gets.nite (by omega) (Gets.pure ⟨?_, h6⟩)
    have e1 : N.mul .i64 r.1 65536 = r.1 * 65536 := mul_id (by omega) (by omega)
    have e2 : N.mul .i64 r3.1 256 = r3.1 * 256 := mul_id (by omega) (by omega)
    have e3 : N.add .i64 (r.1 * 65536) (r3.1 * 256) = r.1 * 65536 + r3.1 * 256 := add_id (by omega) (by omega)
    have e4 : N.add .i64 (r.1 * 65536 + r3.1 * 256) r4.1 = r.1 * 65536 + r3.1 * 256 + r4.1 := add_id (by omega) (by omega)
    simp only [e1, e2, e3, e4]
    rw [rem_pos (by omega)]
    exact ⟨Int.emod_nonneg _ (by omega), Int.emod_lt_of_pos _ h0⟩

theorem spec_l1Int_is {c : l1Cur} (h : curOk c) {l : List Int} (hl : 0 < l.length) (hk : ∀ x ∈ l, ok x) : Gets (fun r => (ok r.1 ∧ r.1 ∈ l) ∧ curOk r.2) (spec_l1Int c l) := by
  refine Gets.bind (spec_l1Below_is h (n := N.len l) (by rw [len_d]; omega)) fun r ⟨⟨h1, h2⟩, h3⟩ => Gets.ite h1 (Gets.ite h2 (Gets.pure ⟨?_, h3⟩))
  rw [len_d] at h2
  have e : r.1 = ((r.1.toNat : Nat) : Int) := by omega
  have hm : N.rd l r.1 0 ∈ l := by rw [e, rd_at l r.1.toNat (by omega)]; exact List.getElem_mem _
  exact ⟨hk _ hm, hm⟩

/-! ## Addresses and resources -/
theorem spec_l4Draw_is {c : l1Cur} (h : curOk c) : Gets (fun r => ok r.1 ∧ curOk r.2) (spec_l4Draw c) :=
  Gets.bind (spec_l1Below_is h (by omega)) fun r ⟨h1, h2⟩ => Gets.bind (spec_l1Below_is h2 (by omega)) fun r3 ⟨h3, h4⟩ => Gets.bind (spec_l1Below_is h4 (by omega)) fun r4 ⟨h5, h6⟩ =>
    Gets.pure ⟨⟨ok_add _ _, ok_below h3 (by omega), ok_below h5 (by omega)⟩, h6⟩

theorem spec_l4Raw_is {c : l1Cur} (h : curOk c) : Gets (fun r => ok r.1 ∧ curOk r.2) (spec_l4Raw c) :=
  Gets.bind (spec_l1Int_is h (by simp) (by simp [ok])) fun r ⟨h1, h2⟩ => Gets.pure ⟨h1.1, h2⟩

theorem spec_l4Any_is {c : l1Cur} (h : curOk c) : Gets (fun r => ok r.1 ∧ curOk r.2) (spec_l4Any c) := by
  refine Gets.bind (spec_l4Draw_is h) fun r ⟨⟨a1, a2, a3⟩, h2⟩ => Gets.bind (spec_l1Below_is h2 (by omega)) fun r2 ⟨h3, h4⟩ => ?_
  refine Gets.cond (fun _ => ?_) fun _ => Gets.cond (fun _ => ?_) fun _ => Gets.cond (fun _ => ?_) fun _ => Gets.pure ⟨⟨a1, a2, a3⟩, h4⟩
  all_goals exact Gets.bind (spec_l4Raw_is h4) fun r5 ⟨h5, h6⟩ => Gets.pure ⟨⟨by assumption, by assumption, by assumption⟩, h6⟩

theorem spec_l5Body_is {c : l1Cur} (h : curOk c) : Gets (fun r => few 5 r.1 ∧ curOk r.2) (spec_l5Body c) := by
  refine Gets.bind (spec_l1Below_is h (n := 5) (by omega)) fun r ⟨h1, h2⟩ => ?_
  refine Gets.fill (K := curOk) (m := 5) (by omega) (fun xs n c hc h0 h9 hx => ?_) (fun xs n c hn => ?_) h1.1 (by omega) h2
  · refine Gets.cond (fun _ => ?_) fun hf => ?_
    · refine Gets.bind (spec_l1Below_is hc (n := 9) (by omega)) fun r2 ⟨h3, h4⟩ => Gets.ite (fitsN (by have := hx.1; simp; omega) (by omega)) (Gets.pure ⟨_, _, rfl, ok_num (by omega) (by omega), h4⟩)
    · simp only [gt_d, decide_eq_false_iff_not] at hf; omega
  · simp only [gt_d, cond_dec]; rw [if_neg (by omega)]

def resOk (r : Int × List Int × Int × Int × Int × l1Cur) : Prop := (ok r.1 ∧ few 7 r.2.1 ∧ ok r.2.2.1 ∧ ok r.2.2.2.1 ∧ ok r.2.2.2.2.1) ∧ curOk r.2.2.2.2.2

theorem few.mono {α : Type} [Data α] {n m : Nat} {xs : List α} (h : few n xs) (hm : n ≤ m) : few m xs := ⟨Nat.le_trans h.1 hm, h.2⟩

theorem spec_l5Draw_is {c : l1Cur} (h : curOk c) : Gets (fun r => (ok r.1 ∧ few 5 r.2.1 ∧ ok r.2.2.1 ∧ ok r.2.2.2.1 ∧ ok r.2.2.2.2.1) ∧ curOk r.2.2.2.2.2) (spec_l5Draw c) := by
  have z : ∀ n : Int, 0 ≤ n → n ≤ 9 → ok n := fun n h1 h2 => ok_num (by omega) (by omega)
  refine Gets.bind (spec_l1Below_is h (by omega)) fun r ⟨h1, h2⟩ => Gets.cond (fun _ => ?_) fun _ => Gets.cond (fun _ => Gets.pure ⟨⟨z 4 (by omega) (by omega), few.nil, z 0 (by omega) (by omega), z 0 (by omega) (by omega), z 0 (by omega) (by omega)⟩, h2⟩) fun _ => ?_
  · exact Gets.bind (spec_l4Draw_is h2) fun r ⟨⟨a1, a2, a3⟩, h3⟩ => Gets.pure ⟨⟨z 3 (by omega) (by omega), few.nil, a1, a2, a3⟩, h3⟩
  · exact Gets.bind (spec_l1Below_is h2 (by omega)) fun r3 ⟨h3, h4⟩ => Gets.bind (spec_l5Body_is h4) fun r4 ⟨h5, h6⟩ => Gets.pure ⟨⟨ok_add _ _, h5, z 0 (by omega) (by omega), z 0 (by omega) (by omega), z 0 (by omega) (by omega)⟩, h6⟩

theorem spec_l5Any_is {c : l1Cur} (h : curOk c) : Gets resOk (spec_l5Any c) := by
  refine Gets.bind (spec_l5Draw_is h) fun r ⟨⟨a1, a2, a3, a4, a5⟩, h2⟩ => Gets.bind (spec_l1Below_is h2 (by omega)) fun r2 ⟨h3, h4⟩ => ?_
  have b2 := few.mono a2 (show 5 ≤ 7 by omega)
  refine Gets.cond (fun _ => ?_) fun _ => Gets.cond (fun _ => ?_) fun _ => Gets.cond (fun _ => ?_) fun _ => Gets.cond (fun _ => ?_) fun _ => Gets.pure ⟨⟨a1, b2, a3, a4, a5⟩, h4⟩
  · exact Gets.bind (spec_l1Int_is h4 (by simp) (by simp [ok])) fun r3 ⟨h5, h6⟩ => Gets.pure ⟨⟨h5.1, b2, a3, a4, a5⟩, h6⟩
  · exact Gets.bind (spec_l1Int_is h4 (by simp) (by simp [ok])) fun r3 ⟨h5, h6⟩ => Gets.ite (fitsN (by have := a2.1; simp; omega) (by omega)) (Gets.pure ⟨⟨a1, few.app a2 h5.1 (by omega), a3, a4, a5⟩, h6⟩)
  · exact Gets.pure ⟨⟨a1, ⟨by simp, by simp [ok]⟩, a3, a4, a5⟩, h4⟩
  · exact Gets.bind (spec_l4Any_is h4) fun r3 ⟨⟨h5, h6, h7⟩, h8⟩ => Gets.pure ⟨⟨a1, b2, h5, h6, h7⟩, h8⟩

end D
end Go.Sh
set_option linter.unusedVariables false
set_option linter.unusedSimpArgs false
set_option synthInstance.maxSize 100000
set_option maxHeartbeats 2000000
namespace Go.Sh
open Go Data
namespace D
end D
end Go.Sh
set_option linter.unusedVariables false
set_option linter.unusedSimpArgs false
set_option synthInstance.maxSize 100000
set_option maxHeartbeats 2000000
namespace Go.Sh
open Go Data
namespace D
theorem spec_l1Once_is {c : l1Cur} (h : curOk c) {n : Int} (h0 : 0 < n) : Gets (fun r => curOk r.2) (spec_l1Once c n) :=
  Gets.bind (spec_l1Below_is h h0) fun r ⟨_, h2⟩ => Gets.pure h2

end D
end Go.Sh
set_option linter.unusedVariables false
set_option linter.unusedSimpArgs false
set_option synthInstance.maxSize 100000
set_option maxHeartbeats 4000000
namespace Go.Sh
open Go Data
namespace D
end D
end Go.Sh
set_option linter.unusedVariables false
set_option linter.unusedSimpArgs false
set_option synthInstance.maxSize 100000
set_option maxHeartbeats 4000000
namespace Go.Sh
open Go Data
namespace D
end D
end Go.Sh
set_option linter.unusedVariables false
set_option linter.unusedSimpArgs false
set_option synthInstance.maxSize 100000
set_option maxHeartbeats 4000000
namespace Go.Sh
open Go Data
namespace D
end D
end Go.Sh
set_option linter.unusedVariables false
set_option linter.unusedSimpArgs false
set_option synthInstance.maxSize 100000
set_option maxHeartbeats 4000000
namespace Go.Sh
open Go Data
namespace D
end D
end Go.Sh
set_option linter.unusedVariables false
set_option linter.unusedSimpArgs false
set_option synthInstance.maxSize 100000
set_option maxHeartbeats 4000000
namespace Go.Sh
open Go Data
namespace D
end D
end Go.Sh
set_option linter.unusedVariables false
set_option linter.unusedSimpArgs false
set_option synthInstance.maxSize 100000
set_option maxHeartbeats 4000000
namespace Go.Sh
open Go Data
namespace D
end D
end Go.Sh
set_option linter.unusedVariables false
set_option linter.unusedSimpArgs false
set_option synthInstance.maxSize 100000
set_option maxHeartbeats 4000000
namespace Go.Sh
open Go Data
end Go.Sh
set_option linter.unusedVariables false
set_option linter.unusedSimpArgs false
set_option synthInstance.maxSize 100000
set_option maxHeartbeats 4000000
namespace Go.Sh
open Go Data
namespace D
end D
end Go.Sh
set_option linter.unusedVariables false
set_option linter.unusedSimpArgs false
set_option synthInstance.maxSize 100000
set_option maxHeartbeats 4000000
namespace Go.Sh
open Go Data
namespace D
end D
end Go.Sh
set_option linter.unusedVariables false
set_option linter.unusedSimpArgs false
set_option synthInstance.maxSize 100000
set_option maxHeartbeats 4000000
namespace Go.Sh
open Go Data
namespace D
end D
end Go.Sh
set_option linter.unusedVariables false
set_option linter.unusedSimpArgs false
set_option synthInstance.maxSize 100000
set_option maxHeartbeats 4000000
namespace Go.Sh
open Go Data
namespace D
end D
end Go.Sh
set_option linter.unusedVariables false
set_option linter.unusedSimpArgs false
set_option synthInstance.maxSize 100000
set_option maxHeartbeats 4000000
namespace Go.Sh
open Go Data
namespace D
end D
end Go.Sh
set_option linter.unusedVariables false
set_option linter.unusedSimpArgs false
set_option synthInstance.maxSize 100000
set_option maxHeartbeats 4000000
namespace Go.Sh
open Go Data
namespace D
end D
end Go.Sh
set_option linter.unusedVariables false
set_option linter.unusedSimpArgs false
set_option synthInstance.maxSize 100000
set_option maxHeartbeats 4000000
namespace Go.Sh
open Go Data
namespace D
end D
end Go.Sh
set_option linter.unusedVariables false
set_option linter.unusedSimpArgs false
set_option synthInstance.maxSize 100000
set_option maxHeartbeats 4000000
namespace Go.Sh
open Go Data
namespace D
end D
end Go.Sh
set_option linter.unusedVariables false
set_option linter.unusedSimpArgs false
set_option synthInstance.maxSize 100000
set_option maxHeartbeats 4000000
namespace Go.Sh
open Go Data
namespace D
end D
end Go.Sh
set_option linter.unusedVariables false
set_option linter.unusedSimpArgs false
set_option synthInstance.maxSize 100000
set_option maxHeartbeats 4000000
namespace Go.Sh
open Go Data
namespace D
end D
end Go.Sh
set_option linter.unusedVariables false
set_option linter.unusedSimpArgs false
set_option synthInstance.maxSize 100000
set_option maxHeartbeats 4000000
namespace Go.Sh
open Go Data
namespace D
end D
end Go.Sh
set_option linter.unusedVariables false
set_option linter.unusedSimpArgs false
set_option synthInstance.maxSize 100000
set_option maxHeartbeats 4000000
namespace Go.Sh
open Go Data
namespace D
end D
end Go.Sh
set_option linter.unusedVariables false
set_option linter.unusedSimpArgs false
set_option synthInstance.maxSize 100000
set_option maxHeartbeats 4000000
namespace Go.Sh
open Go Data
namespace D
end D
end Go.Sh
set_option linter.unusedVariables false
set_option linter.unusedSimpArgs false
set_option synthInstance.maxSize 100000
set_option maxHeartbeats 4000000
namespace Go.Sh
open Go Data
namespace D
end D
end Go.Sh
set_option linter.unusedVariables false
set_option linter.unusedSimpArgs false
set_option synthInstance.maxSize 100000
set_option maxHeartbeats 4000000
namespace Go.Sh
open Go Data
namespace D
end D
end Go.Sh
set_option linter.unusedVariables false
set_option linter.unusedSimpArgs false
set_option synthInstance.maxSize 100000
set_option maxHeartbeats 4000000
namespace Go.Sh
open Go Data
namespace D
end D
end Go.Sh
set_option linter.unusedVariables false
set_option linter.unusedSimpArgs false
set_option synthInstance.maxSize 100000
set_option maxHeartbeats 4000000
namespace Go.Sh
open Go Data
namespace D
end D
end Go.Sh
set_option linter.unusedVariables false
set_option linter.unusedSimpArgs false
set_option synthInstance.maxSize 100000
set_option maxHeartbeats 4000000
namespace Go.Sh
open Go Data
namespace D
end D
end Go.Sh
set_option linter.unusedVariables false
set_option linter.unusedSimpArgs false
set_option maxRecDepth 100000
set_option maxHeartbeats 4000000
namespace Go.Sh
open Go Data
namespace D
end D
end Go.Sh
set_option linter.unusedVariables false
set_option linter.unusedSimpArgs false
set_option synthInstance.maxSize 100000
set_option maxHeartbeats 4000000
namespace Go.Sh
open Go Data
theorem Gets.both {α : Type} {P Q : α → Prop} {x : Option α} (h1 : Gets P x) (h2 : Gets Q x) : Gets (fun a => P a ∧ Q a) x := by
  obtain ⟨a, rfl, h⟩ := h1
  obtain ⟨b, e, h'⟩ := h2
  simp only [Option.some.injEq] at e
  subst e
  exact ⟨_, rfl, h, h'⟩

namespace D
def digits (b : List Int) : Prop := b.length ≤ 4 ∧ ∀ v ∈ b, 0 ≤ v ∧ v ≤ 8

end D
end Go.Sh
set_option linter.unusedVariables false
set_option linter.unusedSimpArgs false
set_option synthInstance.maxSize 100000
set_option maxHeartbeats 4000000
namespace Go.Sh
open Go Data
namespace D
end D
end Go.Sh
set_option linter.unusedVariables false
set_option linter.unusedSimpArgs false
namespace Go.Sh.D
open Go
end Go.Sh.D
set_option linter.unusedVariables false
set_option linter.unusedSimpArgs false
namespace Go.Sh.D
open Go
end Go.Sh.D
set_option linter.unusedVariables false
set_option linter.unusedSimpArgs false
namespace Go.Sh.D
open Go
end Go.Sh.D
set_option linter.unusedVariables false
set_option linter.unusedSimpArgs false
namespace Go.Sh.D
open Go
end Go.Sh.D
set_option linter.unusedVariables false
set_option linter.unusedSimpArgs false
namespace Go.Sh.D
open Go
end Go.Sh.D
set_option linter.unusedVariables false
set_option linter.unusedSimpArgs false
namespace Go.Sh.D
open Go
end Go.Sh.D
set_option linter.unusedVariables false
set_option linter.unusedSimpArgs false
namespace Go.Sh.D
open Go
end Go.Sh.D
set_option linter.unusedVariables false
set_option linter.unusedSimpArgs false
namespace Go.Sh.D
open Go
end Go.Sh.D
set_option linter.unusedVariables false
set_option linter.unusedSimpArgs false
namespace Go.Sh.D
open Go
end Go.Sh.D
set_option linter.unusedVariables false
set_option linter.unusedSimpArgs false
namespace Go.Sh.D
open Go Data
end Go.Sh.D
set_option linter.unusedVariables false
set_option linter.unusedSimpArgs false
namespace Go.Sh.D
open Go Data
end Go.Sh.D
set_option linter.unusedVariables false
set_option linter.unusedSimpArgs false
namespace Go.Sh.D
open Go Data
end Go.Sh.D
set_option linter.unusedVariables false
set_option linter.unusedSimpArgs false
namespace Go.Sh.D
open Go Data
end Go.Sh.D
set_option linter.unusedVariables false
set_option linter.unusedSimpArgs false
namespace Go.Sh.D
open Go Data
end Go.Sh.D
set_option linter.unusedVariables false
set_option linter.unusedSimpArgs false
namespace Go.Sh.D
open Go Data
end Go.Sh.D
set_option linter.unusedVariables false
set_option linter.unusedSimpArgs false
namespace Go.Sh.D
open Go Data
end Go.Sh.D
set_option linter.unusedVariables false
set_option linter.unusedSimpArgs false
namespace Go.Sh.D
open Go Data
end Go.Sh.D
set_option linter.unusedVariables false
set_option linter.unusedSimpArgs false
namespace Go.Sh.D
open Go Data
end Go.Sh.D
set_option linter.unusedVariables false
set_option linter.unusedSimpArgs false
namespace Go.Sh.D
open Go Data
end Go.Sh.D
set_option linter.unusedVariables false
set_option linter.unusedSimpArgs false
namespace Go.Sh.D
open Go Data
end Go.Sh.D
set_option linter.unusedVariables false
set_option linter.unusedSimpArgs false
namespace Go.Sh.D
open Go Data
end Go.Sh.D
set_option linter.unusedVariables false
set_option linter.unusedSimpArgs false
namespace Go.Sh
open Go
namespace D
/-! ## Strings as lists -/
abbrev St (l : List UInt8) : ByteArray := ⟨l.toArray⟩
theorem st_ex (s : ByteArray) : ∃ l, s = St l := ⟨s.data.toList, by cases s; rfl⟩
theorem st_inj {a b : List UInt8} : St a = St b ↔ a = b := by
  constructor
  · intro h
    have := congrArg (fun s : ByteArray => s.data.toList) h
    simpa using this
  · rintro rfl; rfl
theorem lit_st (l : List UInt8) : N.lit l = St l := rfl
theorem nostr_st : N.nostr = St [] := rfl
theorem cat_st (a b : List UInt8) : N.cat (St a) (St b) = St (a ++ b) := by
  unfold N.cat
  apply ByteArray.ext
  simp [ByteArray.data_append]
theorem size_st (a : List UInt8) : (St a).size = a.length := by simp [ByteArray.size]
theorem slen_st (a : List UInt8) : N.slen (St a) = (a.length : Int) := by unfold N.slen; rw [size_st]
theorem fits_st {a b : List UInt8} (h : a.length + b.length ≤ 4611686018427387904) : N.catFits (St a) (St b) := by
  unfold N.catFits; rw [size_st, size_st]; omega
theorem ofBytes_st (x : Int) : N.ofBytes [x] = St [UInt8.ofNat x.toNat] := rfl
theorem scut_st (a : List UInt8) (lo hi : Nat) : N.scut (St a) (lo : Int) (hi : Int) = St ((a.drop lo).take (hi - lo)) := by
  unfold N.scut
  exact ByteArray.extract_mk a lo hi
theorem bt_st (a : List UInt8) (i : Nat) (h : i < a.length) : N.bt (St a) (i : Int) = (a[i].toNat : Int) := by
  unfold N.bt
  have : (St a)[(i : Int).toNat]? = some a[i] := by
    have h2 : i < (St a).size := by rw [size_st]; exact h
    simp only [Int.toNat_natCast]
    rw [getElem?_pos (St a) i h2]
    rfl
  rw [this]; rfl

/-! ## Numerals -/
theorem rem_nat (x : Nat) : N.rem (x : Int) 10 = ((x % 10 : Nat) : Int) := by unfold N.rem; exact (Int.ofNat_tmod x 10).symm
theorem quo_nat (x : Nat) (h : x < 1000000000000000000) : N.quo .i64 (x : Int) 10 = ((x / 10 : Nat) : Int) := by
  unfold N.quo
  have e : Int.tdiv (x : Int) 10 = ((x / 10 : Nat) : Int) := (Int.ofNat_tdiv x 10).symm
  rw [e]
  exact wrap_id (by omega) (by omega)
theorem conv8 (d : Nat) (h : d < 10) : N.conv .u8 (N.add .i64 48 (d : Int)) = ((48 + d : Nat) : Int) := by
  rw [add_id (by omega) (by omega)]
  have : d = 0 ∨ d = 1 ∨ d = 2 ∨ d = 3 ∨ d = 4 ∨ d = 5 ∨ d = 6 ∨ d = 7 ∨ d = 8 ∨ d = 9 := by omega
  rcases this with h | h | h | h | h | h | h | h | h | h <;> subst h <;> rfl

/-- the digits of a number; none for 0 -/
def digs (u : Nat) : List UInt8 := if u = 0 then [] else Lib.decDigits u
theorem digs_step (u : Nat) (h : u ≠ 0) : digs u = digs (u / 10) ++ [UInt8.ofNat (48 + u % 10)] := by
  unfold digs
  rw [if_neg h]
  rw [Lib.decDigits]
  split
  · rename_i h1
    have : u / 10 = 0 := by omega
    rw [if_pos this]
    have : u % 10 = u := by omega
    rw [this]; rfl
  · rename_i h1
    have : u / 10 ≠ 0 := by omega
    rw [if_neg this]

def fmtBody (x0 : Int) : ByteArray × Int → Option ((ByteArray × Int) ⊕ ByteArray) := fun s1 =>
  N.cond (N.ne s1.2 0)
    (N.cond (N.lt (N.rem s1.2 10) 0)
      (N.ite (N.catFits (N.ofBytes [N.conv .u8 (N.add .i64 48 (N.sub .i64 0 (N.rem s1.2 10)))]) s1.1)
        (some (.inl (N.cat (N.ofBytes [N.conv .u8 (N.add .i64 48 (N.sub .i64 0 (N.rem s1.2 10)))]) s1.1, N.quo .i64 s1.2 10)))
        none)
      (N.ite (N.catFits (N.ofBytes [N.conv .u8 (N.add .i64 48 (N.rem s1.2 10))]) s1.1)
        (some (.inl (N.cat (N.ofBytes [N.conv .u8 (N.add .i64 48 (N.rem s1.2 10))]) s1.1, N.quo .i64 s1.2 10)))
        none))
    (Option.map Sum.inr (N.cond (N.lt x0 0) (N.ite (N.catFits (N.lit [45]) s1.1) (some (N.cat (N.lit [45]) s1.1)) none) (some s1.1)))

theorem fmt_loop (x0 : Int) (h0 : 0 ≤ x0) : ∀ (k u : Nat) (acc : List UInt8), u < 10 ^ k → u < 1000000000000000000 → acc.length + k ≤ 1000 → loopF (fmtBody x0) (St acc, (u : Int)) = some (St (digs u ++ acc)) := by
  intro k
  induction k with
  | zero =>
    intro u acc h1 _ h2
    have : u = 0 := by simp at h1; exact h1
    subst this
    refine loopF_inr ?_
    unfold fmtBody
    simp only [ne_d, lt_d, cond_dec]
    rw [if_neg (by simp), if_neg (by omega)]
    rfl
  | succ k ih =>
    intro u acc h1 h3 h2
    by_cases hu : u = 0
    · subst hu
      refine loopF_inr ?_
      unfold fmtBody
      simp only [ne_d, lt_d, cond_dec]
      rw [if_neg (by simp), if_neg (by omega)]
      rfl
    · have hd : u % 10 < 10 := Nat.mod_lt _ (by omega)
      have hs : fmtBody x0 (St acc, (u : Int)) = some (.inl (St (UInt8.ofNat (48 + u % 10) :: acc), ((u / 10 : Nat) : Int))) := by
        unfold fmtBody
        simp only [ne_d, lt_d, cond_dec, rem_nat]
        rw [if_pos (by omega), if_neg (by omega), conv8 _ hd, ofBytes_st, nite_pos (fits_st (by simp; omega)), cat_st, quo_nat u h3]
        rfl
      rw [loopF_inl hs, ih (u / 10) _ (by rw [Nat.pow_succ] at h1; omega) (by omega) (by simp; omega), digs_step u hu]
      simp

theorem fmt_is (u : Nat) (h : u < 1000000000000000000) : spec_FormatInt (u : Int) = some (St (Lib.decDigits u)) := by
  unfold spec_FormatInt
  by_cases hu : u = 0
  · subst hu; simp [N.eq, Lib.decDigits]; rfl
  · have h1 : N.eq (u : Int) 0 = false := by rw [eq_d]; simp [hu]
    rw [h1]
    have h2 := fmt_loop (u : Int) (by omega) 18 u [] (by simpa using h) h (by simp)
    have h3 : digs u = Lib.decDigits u := by unfold digs; rw [if_neg hu]
    rw [h3, List.append_nil] at h2
    exact h2
theorem itoa_is (u : Nat) (h : u < 1000000000000000000) : impl_FormatInt (u : Int) = some (St (Lib.decDigits u)) := by
  unfold impl_FormatInt strconv_Itoa N.itoa Lib.itoa
  rw [if_pos (by omega), if_neg (by omega)]
  rfl
theorem fmt_int {n : Int} (h0 : 0 ≤ n) (h : n < 1000000000000000000) : spec_FormatInt n = some (St (Lib.decDigits n.toNat)) := by
  obtain ⟨u, rfl⟩ : ∃ u : Nat, n = u := ⟨n.toNat, by omega⟩
  exact fmt_is u (by omega)
theorem itoa_int {n : Int} (h0 : 0 ≤ n) (h : n < 1000000000000000000) : impl_FormatInt n = some (St (Lib.decDigits n.toNat)) := by
  obtain ⟨u, rfl⟩ : ∃ u : Nat, n = u := ⟨n.toNat, by omega⟩
  exact itoa_is u (by omega)
end D
end Go.Sh
set_option linter.unusedVariables false
set_option linter.unusedSimpArgs false
namespace Go.Sh
open Go Data
namespace D
theorem digs_len : ∀ (k u : Nat), u < 10 ^ k → (digs u).length ≤ k
  | 0, u, h => by
    have : u = 0 := by simpa using h
    subst this; simp [digs]
  | k + 1, u, h => by
    by_cases hu : u = 0
    · subst hu; simp [digs]
    · rw [digs_step u hu]
      have := digs_len k (u / 10) (by rw [Nat.pow_succ] at h; omega)
      simp; omega
theorem dec_len {u : Nat} (h : u < 1000000000000000000) : (Lib.decDigits u).length ≤ 18 := by
  by_cases hu : u = 0
  · subst hu; rw [Lib.decDigits_one (by omega)]; simp
  · have := digs_len 18 u (by simpa using h)
    unfold digs at this
    rw [if_neg hu] at this
    exact this
def dec (n : Int) : List UInt8 := Lib.decDigits n.toNat
theorem dec_le {n : Int} (h0 : 0 ≤ n) (h : n < 1000000000000000000) : (dec n).length ≤ 18 := dec_len (by omega)

def addrL (a : Address) : List UInt8 := dec a.1 ++ 47 :: dec a.2.1 ++ (if a.2.2 = 0 then [] else 63 :: dec a.2.2)
theorem addrP_is (a : Address) : addrP a = true ↔ (1 ≤ a.1 ∧ a.1 ≤ 9) ∧ (0 ≤ a.2.1 ∧ a.2.1 ≤ 99) ∧ (0 ≤ a.2.2 ∧ a.2.2 ≤ 99) := by
  unfold addrP
  simp only [Bool.and_eq_true, decide_eq_true_eq, and_assoc]
theorem addrL_len {a : Address} (h : addrP a = true) : (addrL a).length ≤ 60 := by
  obtain ⟨h1, h2, h3⟩ := (addrP_is a).1 h
  have l1 := dec_le (n := a.1) (by omega) (by omega)
  have l2 := dec_le (n := a.2.1) (by omega) (by omega)
  have l3 := dec_le (n := a.2.2) (by omega) (by omega)
  unfold addrL
  split <;> simp <;> omega

theorem spec_AddressText_is (a : Address) : spec_AddressText a = some (St (if addrP a = true then addrL a else [])) := by
  unfold spec_AddressText
  rw [spec_IsAddress_is, bind_some']
  by_cases h : addrP a = true
  · obtain ⟨h1, h2, h3⟩ := (addrP_is a).1 h
    have l1 := dec_le (n := a.1) (by omega) (by omega)
    have l2 := dec_le (n := a.2.1) (by omega) (by omega)
    have l3 := dec_le (n := a.2.2) (by omega) (by omega)
    have f1 : spec_FormatInt a.1 = some (St (dec a.1)) := fmt_int (by omega) (by omega)
    have f2 : spec_FormatInt a.2.1 = some (St (dec a.2.1)) := fmt_int (by omega) (by omega)
    have f3 : spec_FormatInt a.2.2 = some (St (dec a.2.2)) := fmt_int (by omega) (by omega)
    rw [h]
    simp only [N.not, Bool.not_true, cond_false, f1, f2, f3, bind_some', lit_st, if_true]
    rw [nite_pos (fits_st (by simp; omega))]
    simp only [cat_st]
    rw [nite_pos (fits_st (by simp; omega))]
    simp only [ne_d, cond_dec]
    by_cases hq : a.2.2 = 0
    · rw [if_neg (by omega)]
      unfold addrL
      rw [if_pos hq]; simp
    · rw [if_pos hq, nite_pos (fits_st (by simp; omega)), nite_pos (fits_st (by simp; omega))]
      unfold addrL
      rw [if_neg hq]; simp
  · have h' : addrP a = false := by simpa using h
    rw [h']; rfl

theorem impl_AddressText_is (a : Address) : impl_AddressText a = some (St (if addrP a = true then addrL a else [])) := by
  unfold impl_AddressText
  rw [impl_IsAddress_is, bind_some']
  by_cases h : addrP a = true
  · obtain ⟨h1, h2, h3⟩ := (addrP_is a).1 h
    have l1 := dec_le (n := a.1) (by omega) (by omega)
    have l2 := dec_le (n := a.2.1) (by omega) (by omega)
    have l3 := dec_le (n := a.2.2) (by omega) (by omega)
    have f1 : impl_FormatInt a.1 = some (St (dec a.1)) := itoa_int (by omega) (by omega)
    have f2 : impl_FormatInt a.2.1 = some (St (dec a.2.1)) := itoa_int (by omega) (by omega)
    have f3 : impl_FormatInt a.2.2 = some (St (dec a.2.2)) := itoa_int (by omega) (by omega)
    rw [h]
    simp only [N.not, Bool.not_true, cond_false, f1, f2, f3, bind_some', lit_st, if_true]
    rw [nite_pos (fits_st (by simp; omega))]
    simp only [cat_st]
    rw [nite_pos (fits_st (by simp; omega))]
    simp only [ne_d, cond_dec]
    by_cases hq : a.2.2 = 0
    · rw [if_neg (by omega)]
      unfold addrL
      rw [if_pos hq]; simp
    · rw [if_pos hq, nite_pos (fits_st (by simp; omega)), nite_pos (fits_st (by simp; omega))]
      unfold addrL
      rw [if_neg hq]; simp
  · have h' : addrP a = false := by simpa using h
    rw [h']; rfl

/-- an address shown at a tick of its recording -/
def shownP (x : Shown) : Bool := decide (0 ≤ x.1 ∧ x.1 ≤ 2000) && addrP x.2
def shownL (x : Shown) : List UInt8 := [97, 114, 99, 104, 105, 118, 101, 47] ++ dec x.1 ++ 47 :: addrL x.2
def shownT (x : Shown) : List UInt8 := if shownP x = true then shownL x else []
theorem shownP_is (x : Shown) : shownP x = true ↔ (0 ≤ x.1 ∧ x.1 ≤ 2000) ∧ addrP x.2 = true := by
  unfold shownP; simp only [Bool.and_eq_true, decide_eq_true_eq]

theorem spec_ShownText_is (x : Shown) : spec_ShownText x = some (St (shownT x)) := by
  unfold spec_ShownText shownT
  rw [spec_l1In_is, bind_some', spec_IsAddress_is]
  by_cases h : 0 ≤ x.1 ∧ x.1 ≤ 2000
  · have l1 := dec_le (n := x.1) (by omega) (by omega)
    have f1 : spec_FormatInt x.1 = some (St (dec x.1)) := fmt_int (by omega) (by omega)
    by_cases ha : addrP x.2 = true
    · have l2 := addrL_len ha
      rw [if_pos ((shownP_is x).2 ⟨h, ha⟩), spec_AddressText_is, ha]
      simp only [N.not, h, and_self, decide_true, Bool.not_true, cond_false, f1, bind_some', lit_st, if_true]
      rw [nite_pos (fits_st (by simp; omega))]
      simp only [cat_st]
      rw [nite_pos (fits_st (by simp; omega)), nite_pos (fits_st (by simp; omega))]
      unfold shownL
      simp
    · rw [if_neg (fun e => ha ((shownP_is x).1 e).2)]
      have h' : addrP x.2 = false := by simpa using ha
      simp only [h', N.not, h, and_self, decide_true, Bool.not_true, Bool.not_false, cond_true, cond_false, bind_some', nostr_st]
  · rw [if_neg (fun e => h ((shownP_is x).1 e).1)]
    simp only [N.not, h, decide_false, Bool.not_false, cond_true, nostr_st]
theorem impl_ShownText_is (x : Shown) : impl_ShownText x = some (St (shownT x)) := by
  unfold impl_ShownText shownT
  rw [impl_InRange_is, bind_some', impl_IsAddress_is]
  by_cases h : 0 ≤ x.1 ∧ x.1 ≤ 2000
  · have l1 := dec_le (n := x.1) (by omega) (by omega)
    have f1 : impl_FormatInt x.1 = some (St (dec x.1)) := itoa_int (by omega) (by omega)
    by_cases ha : addrP x.2 = true
    · have l2 := addrL_len ha
      rw [if_pos ((shownP_is x).2 ⟨h, ha⟩), impl_AddressText_is, ha]
      simp only [N.not, h, and_self, decide_true, Bool.not_true, cond_false, f1, bind_some', lit_st, if_true]
      rw [nite_pos (fits_st (by simp; omega))]
      simp only [cat_st]
      rw [nite_pos (fits_st (by simp; omega)), nite_pos (fits_st (by simp; omega))]
      unfold shownL
      simp
    · rw [if_neg (fun e => ha ((shownP_is x).1 e).2)]
      have h' : addrP x.2 = false := by simpa using ha
      simp only [h', N.not, h, and_self, decide_true, Bool.not_true, Bool.not_false, cond_true, cond_false, bind_some', nostr_st]
  · rw [if_neg (fun e => h ((shownP_is x).1 e).1)]
    simp only [N.not, h, decide_false, Bool.not_false, cond_true, nostr_st]

end D
end Go.Sh
set_option linter.unusedVariables false
set_option linter.unusedSimpArgs false
namespace Go.Sh
open Go Data
namespace D
/-! ## Numbers out of texts -/
def isDig (b : UInt8) : Bool := decide (48 ≤ b.toNat ∧ b.toNat ≤ 57)
def pintFrom (l0 : List UInt8) : List UInt8 → Nat → Int × Bool
  | [], n => if n ≤ 1000000000000 ∧ Lib.decDigits n = l0 then ((n : Int), true) else (0, false)
  | b :: r, n => if isDig b = true then pintFrom l0 r (10 * n + (b.toNat - 48)) else (0, false)
def pintP (l : List UInt8) : Int × Bool := if 1 ≤ l.length ∧ l.length ≤ 13 then pintFrom l l 0 else (0, false)

theorem dig_at (d : Nat) (h : d < 10) : (UInt8.ofNat (48 + d)).toNat = 48 + d := by
  have : d = 0 ∨ d = 1 ∨ d = 2 ∨ d = 3 ∨ d = 4 ∨ d = 5 ∨ d = 6 ∨ d = 7 ∨ d = 8 ∨ d = 9 := by omega
  rcases this with h | h | h | h | h | h | h | h | h | h <;> subst h <;> rfl
theorem isDig_at (d : Nat) (h : d < 10) : isDig (UInt8.ofNat (48 + d)) = true := by
  unfold isDig; rw [dig_at d h]; simp; omega
theorem pint_digs (l0 : List UInt8) : ∀ (k u : Nat) (r : List UInt8), u < 10 ^ k → pintFrom l0 (digs u ++ r) 0 = pintFrom l0 r u
  | 0, u, r, h => by
    have : u = 0 := by simpa using h
    subst this; simp [digs]
  | k + 1, u, r, h => by
    by_cases hu : u = 0
    · subst hu; simp [digs]
    · have hd : u % 10 < 10 := Nat.mod_lt _ (by omega)
      rw [digs_step u hu, List.append_assoc, pint_digs l0 k (u / 10) _ (by rw [Nat.pow_succ] at h; omega)]
      show pintFrom l0 (UInt8.ofNat (48 + u % 10) :: r) (u / 10) = _
      rw [pintFrom, if_pos (isDig_at _ hd), dig_at _ hd]
      congr 1
      omega
theorem digs_dec {u : Nat} (h : u ≠ 0) : digs u = Lib.decDigits u := by unfold digs; rw [if_neg h]
theorem dec_pos (u : Nat) : 1 ≤ (Lib.decDigits u).length := by
  rw [Lib.decDigits]; split <;> simp
theorem pintP_dec {u : Nat} (h : u ≤ 1000000000000) : pintP (Lib.decDigits u) = ((u : Int), true) := by
  have hl : (Lib.decDigits u).length ≤ 13 := by
    by_cases hu : u = 0
    · subst hu; rw [Lib.decDigits_one (by omega)]; simp
    · rw [← digs_dec hu]; exact digs_len 13 u (by omega)
  unfold pintP
  rw [if_pos ⟨dec_pos u, hl⟩]
  by_cases hu : u = 0
  · subst hu
    rw [Lib.decDigits_one (by omega)]
    show pintFrom _ [UInt8.ofNat (48 + 0)] 0 = _
    rw [pintFrom, if_pos (isDig_at 0 (by omega)), dig_at 0 (by omega), pintFrom, if_pos ⟨by omega, by rw [Lib.decDigits_one (by omega)]⟩]
  · have := pint_digs (Lib.decDigits u) 13 u [] (by omega)
    rw [digs_dec hu, List.append_nil] at this
    rw [this, pintFrom, if_pos ⟨h, rfl⟩]
theorem pint_loop {step : Int × Int → Option ((Int × Int) ⊕ (Int × Bool))} {l : List UInt8} (hl : l.length ≤ 13)
    (hstep : ∀ (k : Nat) (hk : k < l.length) (n : Nat), n < 10000000000000 → step ((n : Int), (k : Int)) = if isDig l[k] = true then some (.inl (((10 * n + (l[k].toNat - 48) : Nat) : Int), ((k + 1 : Nat) : Int))) else some (.inr (0, false)))
    (hend : ∀ n : Nat, n < 10000000000000 → step ((n : Int), (l.length : Int)) = some (.inr (pintFrom l [] n))) : ∀ (m k n : Nat), k + m = l.length → n < 10 ^ k → loopF step ((n : Int), (k : Int)) = some (pintFrom l (l.drop k) n) := by
  intro m
  induction m with
  | zero =>
    intro k n h hn
    have hk : k = l.length := by omega
    subst hk
    have hb : 10 ^ l.length ≤ 10 ^ 13 := Nat.pow_le_pow_right (by omega) hl
    rw [loopF_inr (hend n (by omega)), List.drop_length]
  | succ m ih =>
    intro k n h hn
    have hk : k < l.length := by omega
    have hb : 10 ^ k ≤ 10 ^ 12 := Nat.pow_le_pow_right (by omega) (by omega)
    have hs := hstep k hk n (by omega)
    rw [List.drop_eq_getElem_cons hk, pintFrom]
    by_cases hd : isDig l[k] = true
    · rw [if_pos hd] at hs
      rw [if_pos hd, loopF_inl hs]
      unfold isDig at hd
      simp only [decide_eq_true_eq] at hd
      exact ih (k + 1) _ (by omega) (by rw [Nat.pow_succ]; omega)
    · rw [if_neg hd] at hs
      rw [if_neg hd]
      exact loopF_inr hs
theorem sub8 (b : Nat) (h : 48 ≤ b ∧ b ≤ 57) : N.conv .i64 (N.sub .u8 (b : Int) 48) = ((b - 48 : Nat) : Int) := by
  have : b = 48 ∨ b = 49 ∨ b = 50 ∨ b = 51 ∨ b = 52 ∨ b = 53 ∨ b = 54 ∨ b = 55 ∨ b = 56 ∨ b = 57 := by omega
  rcases this with h | h | h | h | h | h | h | h | h | h <;> subst h <;> rfl

theorem spec_ParseInt_is (l : List UInt8) (hb : l.length ≤ 2097152) : spec_ParseInt (St l) = some (pintP l) := by
  unfold spec_ParseInt pintP
  rw [spec_l1In_is, bind_some', slen_st]
  by_cases h : 1 ≤ l.length ∧ l.length ≤ 13
  · rw [if_pos h]
    have e1 : decide ((1 : Int) ≤ (l.length : Int) ∧ (l.length : Int) ≤ 13) = true := decide_eq_true (by omega)
    rw [e1]
    simp only [N.not, Bool.not_true, cond_false]
    refine (pint_loop (step := _) h.2 (fun k hk n hn => ?_) (fun n hn => ?_) l.length 0 0 (by omega) (by simp)).trans (by rw [List.drop_zero])
    · have hu := l[k].toNat_lt
      have hx : N.conv .i64 ((l[k].toNat : Nat) : Int) = ((l[k].toNat : Nat) : Int) := wrap_id (by omega) (by omega)
      simp only [lt_d, cond_dec]
      rw [if_pos (by omega), nite_pos (by omega), nite_pos (by omega), bt_st l k hk, hx, spec_l1In_is, bind_some']
      by_cases hd : 48 ≤ l[k].toNat ∧ l[k].toNat ≤ 57
      · have e2 : decide ((48 : Int) ≤ (l[k].toNat : Int) ∧ (l[k].toNat : Int) ≤ 57) = true := decide_eq_true (by omega)
        rw [e2, if_pos (show isDig l[k] = true by unfold isDig; exact decide_eq_true hd)]
        simp only [Bool.not_true, cond_false]
        rw [nite_pos (by omega), nite_pos (by omega), sub8 _ hd, mul_id (by omega) (by omega), add_id (by omega) (by omega), add_id (by omega) (by omega)]
        rfl
      · have e2 : decide ((48 : Int) ≤ (l[k].toNat : Int) ∧ (l[k].toNat : Int) ≤ 57) = false := decide_eq_false (by omega)
        rw [e2, if_neg (show ¬ isDig l[k] = true by unfold isDig; rw [decide_eq_true_eq]; exact hd)]
        rfl
    · simp only [lt_d, cond_dec, gt_d]
      rw [if_neg (by omega), pintFrom]
      by_cases hn2 : n ≤ 1000000000000
      · rw [if_neg (by omega), fmt_is n (by omega), bind_some', neS_d, cond_dec]
        simp only [st_inj]
        by_cases he : Lib.decDigits n = l
        · rw [if_neg (by simpa using he), if_pos ⟨hn2, he⟩]; rfl
        · rw [if_pos he, if_neg (fun e => he e.2)]; rfl
      · rw [if_pos (by omega), if_neg (fun e => hn2 e.1)]; rfl
  · rw [if_neg h]
    have e1 : decide ((1 : Int) ≤ (l.length : Int) ∧ (l.length : Int) ≤ 13) = false := decide_eq_false (by omega)
    rw [e1]; rfl

theorem impl_ParseInt_is (l : List UInt8) (hb : l.length ≤ 2097152) : impl_ParseInt (St l) = some (pintP l) := by
  unfold impl_ParseInt pintP
  rw [slen_st]
  simp only [eq_d, gt_d, cond_dec]
  by_cases h : 1 ≤ l.length ∧ l.length ≤ 13
  · rw [if_pos h, if_neg (by omega), if_neg (by omega)]
    refine (pint_loop (step := _) h.2 (fun k hk n hn => ?_) (fun n hn => ?_) l.length 0 0 (by omega) (by simp)).trans (by rw [List.drop_zero])
    · have hu := l[k].toNat_lt
      simp only [lt_d, cond_dec]
      rw [if_pos (by omega), nite_pos (by omega), nite_pos (by omega), bt_st l k hk]
      by_cases hd : 48 ≤ l[k].toNat ∧ l[k].toNat ≤ 57
      · rw [if_pos (show isDig l[k] = true by unfold isDig; exact decide_eq_true hd), if_neg (by omega), nite_pos (by omega), nite_pos (by omega), if_neg (by omega), nite_pos (by omega), nite_pos (by omega), sub8 _ hd, mul_id (by omega) (by omega), add_id (by omega) (by omega), add_id (by omega) (by omega), Int.mul_comm]
        rfl
      · rw [if_neg (show ¬ isDig l[k] = true by unfold isDig; rw [decide_eq_true_eq]; exact hd)]
        by_cases h1 : l[k].toNat < 48
        · rw [if_pos (by omega)]
        · rw [if_neg (by omega), nite_pos (by omega), nite_pos (by omega), if_pos (by omega)]
    · simp only [lt_d, cond_dec]
      rw [if_neg (by omega), pintFrom]
      by_cases hn2 : n ≤ 1000000000000
      · rw [if_neg (by omega), itoa_is n (by omega), bind_some', neS_d, cond_dec]
        simp only [st_inj]
        by_cases he : Lib.decDigits n = l
        · rw [if_neg (by simpa using he), if_pos ⟨hn2, he⟩]; rfl
        · rw [if_pos he, if_neg (fun e => he e.2)]; rfl
      · rw [if_pos (by omega), if_neg (fun e => hn2 e.1)]; rfl
  · rw [if_neg h]
    by_cases h0 : l.length = 0
    · rw [if_pos (by omega)]
    · rw [if_neg (by omega), if_pos (by omega)]
end D
end Go.Sh
set_option linter.unusedVariables false
set_option linter.unusedSimpArgs false
set_option maxHeartbeats 1000000
namespace Go.Sh
open Go Data
namespace D
theorem digs_all : ∀ (k u : Nat), u < 10 ^ k → ∀ b ∈ digs u, isDig b = true
  | 0, u, h, b, hb => by
    have : u = 0 := by simpa using h
    subst this; simp [digs] at hb
  | k + 1, u, h, b, hb => by
    by_cases hu : u = 0
    · subst hu; simp [digs] at hb
    · rw [digs_step u hu, List.mem_append] at hb
      rcases hb with hb | hb
      · exact digs_all k (u / 10) (by rw [Nat.pow_succ] at h; omega) b hb
      · simp only [List.mem_singleton] at hb
        subst hb
        exact isDig_at _ (Nat.mod_lt _ (by omega))
theorem dec_all {u : Nat} (h : u < 1000000000000000000) : ∀ b ∈ Lib.decDigits u, isDig b = true := by
  by_cases hu : u = 0
  · subst hu
    rw [Lib.decDigits_one (by omega)]
    intro b hb
    simp only [List.mem_singleton] at hb
    subst hb; exact isDig_at 0 (by omega)
  · rw [← digs_dec hu]; exact digs_all 18 u (by simpa using h)
theorem no47 {l : List UInt8} (h : ∀ b ∈ l, isDig b = true) : ∀ b ∈ l, b ≠ 47 := fun b hb e => by
  have := h b hb
  subst e
  exact absurd this (by decide)
theorem no63 {l : List UInt8} (h : ∀ b ∈ l, isDig b = true) : ∀ b ∈ l, b ≠ 63 := fun b hb e => by
  have := h b hb
  subst e
  exact absurd this (by decide)

/-! ## Cutting at a byte -/
def cutC (c : UInt8) : List UInt8 → List UInt8 × List UInt8
  | [] => ([], [])
  | b :: r => if b = c then ([], r) else (b :: (cutC c r).1, (cutC c r).2)
theorem cutC_at {c : UInt8} : ∀ {a : List UInt8} (r : List UInt8), (∀ b ∈ a, b ≠ c) → cutC c (a ++ c :: r) = (a, r)
  | [], r, _ => by simp [cutC]
  | b :: a, r, h => by
    show cutC c (b :: (a ++ c :: r)) = _
    rw [cutC, if_neg (h b (by simp)), cutC_at r fun x hx => h x (by simp [hx])]
theorem cutC_not {c : UInt8} : ∀ {a : List UInt8}, (∀ b ∈ a, b ≠ c) → cutC c a = (a, [])
  | [], _ => rfl
  | b :: a, h => by rw [cutC, if_neg (h b (by simp)), cutC_not fun x hx => h x (by simp [hx])]
theorem cutC_len (c : UInt8) : ∀ l : List UInt8, (cutC c l).1.length ≤ l.length ∧ (cutC c l).2.length ≤ l.length
  | [] => by simp [cutC]
  | b :: r => by
    have := cutC_len c r
    rw [cutC]; split <;> simp <;> omega
theorem pre1 (c b : UInt8) (r : List UInt8) : [c].isPrefixOf (b :: r) = decide (b = c) := by
  simp [List.isPrefixOf]
  by_cases h : b = c
  · simp [h]
  · have : ¬ c = b := fun e => h e.symm
    simp [h, this]
theorem index_c (c : UInt8) : ∀ l : List UInt8, (Lib.index l [c] = -1 ∧ cutC c l = (l, [])) ∨ (∃ i : Nat, Lib.index l [c] = i ∧ cutC c l = (l.take i, l.drop (i + 1)))
  | [] => .inl ⟨rfl, rfl⟩
  | b :: r => by
    unfold Lib.index
    rw [pre1]
    by_cases h : b = c
    · rw [if_pos (decide_eq_true h)]
      exact .inr ⟨0, rfl, by rw [cutC, if_pos h]; rfl⟩
    · rw [if_neg (by simpa using h), cutC, if_neg h]
      rcases index_c c r with ⟨h1, h2⟩ | ⟨i, h1, h2⟩
      · rw [h1, h2]; exact .inl ⟨rfl, rfl⟩
      · rw [h1, h2]
        refine .inr ⟨i + 1, ?_, rfl⟩
        have h3 : ((i : Int) == -1) = false := by rw [beq_eq_false_iff_ne]; omega
        first | (rw [h3]; simp) | (simp only [h3]; simp) | (rw [if_neg (by omega)]; simp)
theorem cut_c (c : UInt8) (l : List UInt8) : (Lib.cut l [c]).1 = (cutC c l).1 ∧ (Lib.cut l [c]).2.1 = (cutC c l).2 := by
  unfold Lib.cut
  rcases index_c c l with ⟨h1, h2⟩ | ⟨i, h1, h2⟩
  · rw [h1, h2]; exact ⟨rfl, rfl⟩
  · rw [h1, h2, if_pos (by omega)]
    simp
theorem cutAt_is (c : UInt8) (l : List UInt8) (h : l.length ≤ 2097152) : ∃ b, strings_Cut (St l) (N.lit [c]) = some (St (cutC c l).1, St (cutC c l).2, b) := by
  unfold strings_Cut N.cutAt
  rw [if_pos (by rw [size_st]; omega)]
  have h1 := cut_c c l
  refine ⟨(Lib.cut l [c]).2.2, ?_⟩
  show some (St (Lib.cut l [c]).1, St (Lib.cut l [c]).2.1, (Lib.cut l [c]).2.2) = _
  rw [h1.1, h1.2]

/-! ## Addresses out of texts -/
def addrT (a : Address) : List UInt8 := if addrP a = true then addrL a else []
/-- what reading an address may answer -/
def AddrIs (l : List UInt8) (r : Address × Bool) : Prop :=
  (r = ((0, 0, 0), false) ∨ (addrP r.1 = true ∧ addrL r.1 = l ∧ r.2 = true)) ∧ ∀ y, addrP y = true → addrL y = l → r = (y, true)
theorem addrL_pos (a : Address) : addrL a ≠ [] := by
  unfold addrL dec
  have := dec_pos a.1.toNat
  intro h
  have := congrArg List.length h
  simp at this
theorem pintP_int {n : Int} (h0 : 0 ≤ n) (h : n ≤ 1000000000000) : pintP (dec n) = (n, true) := by
  unfold dec
  rw [pintP_dec (by omega)]
  rw [Int.toNat_of_nonneg h0]
theorem dec_dig {n : Int} (h0 : 0 ≤ n) (h : n ≤ 1000000000000) : ∀ b ∈ dec n, isDig b = true := dec_all (by omega)
theorem pintP_nil : pintP [] = (0, false) := rfl
theorem eqS_d (a b : ByteArray) : N.eqS a b = decide (a = b) := by
  have h := neS_d a b
  unfold N.neS at h
  unfold N.eqS
  by_cases e : a = b
  · subst e; simp
  · rw [decide_eq_true (p := ¬ a = b) e] at h
    rw [decide_eq_false e]
    cases hx : (a.toList == b.toList)
    · rfl
    · rw [hx] at h; cases h

theorem impl_ParseAddress_is (l : List UInt8) (h : l.length ≤ 2097152) : ∃ r, impl_ParseAddress (St l) = some r ∧ AddrIs l r := by
  unfold impl_ParseAddress
  obtain ⟨b1, e1⟩ := cutAt_is 47 l h
  have l1 := cutC_len 47 l
  obtain ⟨b2, e2⟩ := cutAt_is 63 (cutC 47 l).2 (by omega)
  have l2 := cutC_len 63 (cutC 47 l).2
  simp only [e1, bind_some', e2, impl_ParseInt_is _ (show (cutC 47 l).1.length ≤ 2097152 by omega), impl_ParseInt_is _ (show (cutC 63 (cutC 47 l).2).1.length ≤ 2097152 by omega), impl_ParseInt_is _ (show (cutC 63 (cutC 47 l).2).2.length ≤ 2097152 by omega), impl_AddressText_is, eqS_d, neS_d, cond_dec, nostr_st, st_inj]
  have hc : ∀ y, addrP y = true → addrL y = l → ((pintP (cutC 47 l).1).1, (pintP (cutC 63 (cutC 47 l).2).1).1, (pintP (cutC 63 (cutC 47 l).2).2).1) = y := by
    intro y hy hl
    obtain ⟨h1, h2, h3⟩ := (addrP_is y).1 hy
    have q1 : cutC 47 l = (dec y.1, dec y.2.1 ++ (if y.2.2 = 0 then [] else 63 :: dec y.2.2)) := by
      rw [← hl]
      unfold addrL
      rw [List.append_assoc]
      exact cutC_at _ (no47 (dec_dig (by omega) (by omega)))
    rw [q1]
    simp only
    by_cases hq : y.2.2 = 0
    · rw [if_pos hq, List.append_nil, cutC_not (no63 (dec_dig (by omega) (by omega))), pintP_int (by omega) (by omega), pintP_int (by omega) (by omega), pintP_nil]
      simp only [← hq]
    · rw [if_neg hq, cutC_at _ (no63 (dec_dig (by omega) (by omega))), pintP_int (by omega) (by omega), pintP_int (by omega) (by omega), pintP_int (by omega) (by omega)]
  by_cases h0 : l = []
  · rw [if_pos h0]
    exact ⟨_, rfl, .inl rfl, fun y _ hy => absurd (hy.trans h0) (addrL_pos y)⟩
  · rw [if_neg h0]
    by_cases ht : (if addrP ((pintP (cutC 47 l).1).1, (pintP (cutC 63 (cutC 47 l).2).1).1, (pintP (cutC 63 (cutC 47 l).2).2).1) = true then addrL ((pintP (cutC 47 l).1).1, (pintP (cutC 63 (cutC 47 l).2).1).1, (pintP (cutC 63 (cutC 47 l).2).2).1) else []) = l
    · rw [if_neg (by simpa using ht)]
      refine ⟨_, rfl, .inr ?_, fun y h1 h2 => by rw [hc y h1 h2]⟩
      split at ht
      · rename_i hp; exact ⟨hp, ht, rfl⟩
      · exact absurd ht.symm h0
    · rw [if_pos ht]
      refine ⟨_, rfl, .inl rfl, fun y h1 h2 => absurd ?_ ht⟩
      rw [hc y h1 h2, if_pos h1, h2]
end D
end Go.Sh
set_option linter.unusedVariables false
set_option linter.unusedSimpArgs false
set_option maxHeartbeats 2000000
namespace Go.Sh
open Go Data
namespace D
/-! ## The reference's reading of an address -/
def paF : List UInt8 → Nat → List (List UInt8) → Nat × List (List UInt8)
  | [], k, ps => (k, ps)
  | b :: r, k, ps => if b = 47 ∧ k = 0 ∨ b = 63 ∧ k = 1 then paF r (k + 1) ps else paF r k (ps.set k (ps.getD k [] ++ [b]))
def paFin (l : List UInt8) (q : Nat × List (List UInt8)) : Address × Bool :=
  if (pintP (q.2.getD 0 [])).2 = true ∧ (pintP (q.2.getD 1 [])).2 = true ∧ (q.1 = 2 → (pintP (q.2.getD 2 [])).2 = true) ∧ addrT ((pintP (q.2.getD 0 [])).1, (pintP (q.2.getD 1 [])).1, if q.1 = 2 then (pintP (q.2.getD 2 [])).1 else 0) = l then
    (((pintP (q.2.getD 0 [])).1, (pintP (q.2.getD 1 [])).1, if q.1 = 2 then (pintP (q.2.getD 2 [])).1 else 0), true) else ((0, 0, 0), false)
def paEmb (l : List UInt8) (k i : Nat) (ps : List (List UInt8)) : Int × Int × List ByteArray := ((k : Int), (i : Int), ps.map St)

theorem rd_map {ps : List (List UInt8)} {k : Nat} (h : k < ps.length) : N.rd (ps.map St) (k : Int) N.nostr = St (ps.getD k []) := by
  rw [rd_at _ _ (by simpa using h)]
  simp [List.getD, h]
theorem set_map (ps : List (List UInt8)) (k : Nat) (x : List UInt8) : N.set (ps.map St) (k : Int) (St x) = (ps.set k x).map St := by
  unfold N.set
  simp

theorem pa_loop {step : Int × Int × List ByteArray → Option ((Int × Int × List ByteArray) ⊕ (Address × Bool))} {l : List UInt8}
    (hstep : ∀ (k i : Nat) (hi : i < l.length) (ps : List (List UInt8)), k < 3 → ps.length = 3 → (∀ j, (ps.getD j []).length ≤ i) → step (paEmb l k i ps) = some (.inl (if l[i] = 47 ∧ k = 0 ∨ l[i] = 63 ∧ k = 1 then paEmb l (k + 1) (i + 1) ps else paEmb l k (i + 1) (ps.set k (ps.getD k [] ++ [l[i]])))))
    (hend : ∀ (k : Nat) (ps : List (List UInt8)), k < 3 → ps.length = 3 → (∀ j, (ps.getD j []).length ≤ l.length) → step (paEmb l k l.length ps) = some (.inr (paFin l (k, ps)))) :
    ∀ (m k i : Nat) (ps : List (List UInt8)), i + m = l.length → k < 3 → ps.length = 3 → (∀ j, (ps.getD j []).length ≤ i) → loopF step (paEmb l k i ps) = some (paFin l (paF (l.drop i) k ps)) := by
  intro m
  induction m with
  | zero =>
    intro k i ps h hk hp hb
    have : i = l.length := by omega
    subst this
    rw [loopF_inr (hend k ps hk hp hb), List.drop_length]; rfl
  | succ m ih =>
    intro k i ps h hk hp hb
    have hi : i < l.length := by omega
    have hs := hstep k i hi ps hk hp hb
    rw [loopF_inl hs, List.drop_eq_getElem_cons hi, paF]
    by_cases hc : l[i] = 47 ∧ k = 0 ∨ l[i] = 63 ∧ k = 1
    · rw [if_pos hc, if_pos hc]
      exact ih (k + 1) (i + 1) ps (by omega) (by omega) hp fun j => by have := hb j; omega
    · rw [if_neg hc, if_neg hc]
      refine ih k (i + 1) _ (by omega) hk (by simpa using hp) fun j => ?_
      by_cases hj : j = k
      · subst hj
        have h1 := hb j
        have h2 : j < ps.length := by omega
        simp [List.getD, h2] at h1 ⊢
        omega
      · have h1 := hb j
        have h2 : (ps.set k (ps.getD k [] ++ [l[i]])).getD j [] = ps.getD j [] := by
          simp only [List.getD_eq_getElem?_getD]
          rw [List.getElem?_set_ne (by omega)]
        rw [h2]; omega

theorem paF_to {c : Bool} : ∀ (a r : List UInt8) (k : Nat) (ps : List (List UInt8)), k < ps.length → (∀ b ∈ a, ¬ (b = 47 ∧ k = 0 ∨ b = 63 ∧ k = 1)) → paF (a ++ r) k ps = paF r k (ps.set k (ps.getD k [] ++ a))
  | [], r, k, ps, hk, h => by
    have : ps.set k (ps.getD k [] ++ []) = ps := by
      rw [List.append_nil]
      apply List.ext_getElem?
      intro j
      by_cases hj : k = j
      · subst hj; rw [List.getElem?_set_self hk]; simp [List.getD, hk]
      · rw [List.getElem?_set_ne hj]
    rw [this]; rfl
  | b :: a, r, k, ps, hk, h => by
    show paF (b :: (a ++ r)) k ps = _
    rw [paF, if_neg (h b (by simp)), paF_to (c := c) a r k _ (by simpa using hk) fun x hx => h x (by simp [hx])]
    congr 1
    have : (ps.set k (ps.getD k [] ++ [b])).getD k [] = ps.getD k [] ++ [b] := by simp [List.getD, hk]
    rw [this, List.set_set, List.append_assoc]; rfl

theorem paF_addr {y : Address} (hy : addrP y = true) : paFin (addrL y) (paF (addrL y) 0 [[], [], []]) = (y, true) := by
  obtain ⟨h1, h2, h3⟩ := (addrP_is y).1 hy
  have d1 := dec_dig (n := y.1) (by omega) (by omega)
  have d2 := dec_dig (n := y.2.1) (by omega) (by omega)
  have d3 := dec_dig (n := y.2.2) (by omega) (by omega)
  have p1 := pintP_int (n := y.1) (by omega) (by omega)
  have p2 := pintP_int (n := y.2.1) (by omega) (by omega)
  have p3 := pintP_int (n := y.2.2) (by omega) (by omega)
  have e : paF (addrL y) 0 [[], [], []] = if y.2.2 = 0 then (1, [dec y.1, dec y.2.1, []]) else (2, [dec y.1, dec y.2.1, dec y.2.2]) := by
    unfold addrL
    rw [List.append_assoc, paF_to (c := true) _ _ 0 _ (by simp) fun b hb hh => by
      rcases hh with hh | hh
      · exact no47 d1 b hb hh.1
      · omega]
    show paF (47 :: (dec y.2.1 ++ (if y.2.2 = 0 then [] else 63 :: dec y.2.2))) 0 [dec y.1, [], []] = _
    rw [paF, if_pos (.inl ⟨rfl, rfl⟩), paF_to (c := true) _ _ (0 + 1) _ (by simp) fun b hb hh => by
      rcases hh with hh | hh
      · omega
      · exact no63 d2 b hb hh.1]
    show paF (if y.2.2 = 0 then [] else 63 :: dec y.2.2) 1 [dec y.1, dec y.2.1, []] = _
    by_cases hq : y.2.2 = 0
    · rw [if_pos hq, if_pos hq]; rfl
    · rw [if_neg hq, if_neg hq, paF, if_pos (.inr ⟨rfl, rfl⟩)]
      have := paF_to (c := true) (dec y.2.2) [] 2 [dec y.1, dec y.2.1, []] (by simp) fun b hb hh => by
        rcases hh with hh | hh
        · omega
        · omega
      rw [List.append_nil] at this
      rw [this]; rfl
  rw [e]
  have ht : addrT y = addrL y := by unfold addrT; rw [if_pos hy]
  by_cases hq : y.2.2 = 0
  · rw [if_pos hq]
    unfold paFin
    have hy2 : ((y.1, y.2.1, (0 : Int)) : Address) = y := by rw [← hq]
    simp only [List.getD_cons_zero, List.getD_cons_succ, p1, p2]
    rw [if_neg (show ¬ (1 : Nat) = 2 by omega), hy2]
    rw [if_pos ⟨trivial, trivial, fun h => absurd h (by omega), ht⟩]
  · rw [if_neg hq]
    unfold paFin
    simp only [List.getD_cons_zero, List.getD_cons_succ, p1, p2, p3]
    rw [if_pos trivial]
    rw [if_pos ⟨trivial, trivial, fun _ => trivial, ht⟩]

theorem paFin_is {l : List UInt8} (q : Nat × List (List UInt8)) (hq : l = [] → q.2.getD 0 [] = []) : paFin l q = ((0, 0, 0), false) ∨ (addrP (paFin l q).1 = true ∧ addrL (paFin l q).1 = l ∧ (paFin l q).2 = true) := by
  unfold paFin
  generalize hx : (((pintP (q.2.getD 0 [])).1, (pintP (q.2.getD 1 [])).1, if q.1 = 2 then (pintP (q.2.getD 2 [])).1 else 0) : Address) = x
  split
  · rename_i h
    right
    obtain ⟨h1, h2, h3, h4⟩ := h
    unfold addrT at h4
    split at h4
    · rename_i hp; exact ⟨hp, h4, rfl⟩
    · rw [hq h4.symm] at h1
      cases h1
  · exact .inl rfl

def paRest (x0 : ByteArray) (s1 : Int × Int × List ByteArray) : Option ((Int × Int × List ByteArray) ⊕ (Address × Bool)) :=
  N.ite (0 ≤ s1.1)
    (N.ite (s1.1 < N.len s1.2.2)
      (N.ite (0 ≤ s1.2.1)
        (N.ite (s1.2.1 ≤ N.add .i64 s1.2.1 1)
          (N.ite (N.add .i64 s1.2.1 1 ≤ N.slen x0)
            (N.ite (N.catFits (N.rd s1.2.2 s1.1 N.nostr) (N.scut x0 s1.2.1 (N.add .i64 s1.2.1 1)))
              (N.ite (0 ≤ s1.1)
                (N.ite (s1.1 < N.len s1.2.2)
                  (some (.inl (s1.1, N.add .i64 s1.2.1 1, N.set s1.2.2 s1.1 (N.cat (N.rd s1.2.2 s1.1 N.nostr) (N.scut x0 s1.2.1 (N.add .i64 s1.2.1 1))))))
                  none)
                none)
              none)
            none)
          none)
        none)
      none)
    none
theorem paRest_is {l : List UInt8} (hl : l.length ≤ 2097152) {k i : Nat} (hi : i < l.length) {ps : List (List UInt8)} (hk : k < 3) (hp : ps.length = 3) (hb : ∀ j, (ps.getD j []).length ≤ i) :
    paRest (St l) (paEmb l k i ps) = some (.inl (paEmb l k (i + 1) (ps.set k (ps.getD k [] ++ [l[i]])))) := by
  unfold paRest paEmb
  have hlen : N.len (ps.map St) = 3 := by rw [len_d, List.length_map, hp]; rfl
  have ha : N.add .i64 (i : Int) 1 = ((i + 1 : Nat) : Int) := by rw [add_id (by omega) (by omega)]; rfl
  have h1 := hb k
  have hc : (l.drop i).take (i + 1 - i) = [l[i]] := by
    rw [List.drop_eq_getElem_cons hi, show i + 1 - i = 1 by omega]; rfl
  simp only [hlen, ha, slen_st, rd_map (show k < ps.length by omega), scut_st, hc]
  rw [nite_pos (by omega), nite_pos (by omega), nite_pos (by omega), nite_pos (by omega), nite_pos (by omega), nite_pos (fits_st (show (ps.getD k []).length + 1 ≤ 4611686018427387904 by omega)), nite_pos (by omega), nite_pos (by omega), cat_st, set_map]

theorem spec_ParseAddress_is (l : List UInt8) (hl : l.length ≤ 2097152) : ∃ r, spec_ParseAddress (St l) = some r ∧ AddrIs l r := by
  have e : spec_ParseAddress (St l) = some (paFin l (paF l 0 [[], [], []])) := by
    unfold spec_ParseAddress
    refine (pa_loop (step := _) (l := l) (fun k i hi ps hk hp hb => ?_) (fun k ps hk hp hb => ?_) l.length 0 0 [[], [], []] (by omega) (by omega) rfl (fun j => ?_)).trans (by rw [List.drop_zero])
    · have hr := paRest_is hl hi hk hp hb
      unfold paRest at hr
      have ha : N.add .i64 (i : Int) 1 = ((i + 1 : Nat) : Int) := by rw [add_id (by omega) (by omega)]; rfl
      have hak : N.add .i64 (k : Int) 1 = ((k + 1 : Nat) : Int) := by rw [add_id (by omega) (by omega)]; rfl
      have hu : ∀ c : Nat, c < 256 → ((l[i].toNat : Int) = (c : Int) ↔ l[i] = UInt8.ofNat c) := fun c hc => by
        constructor
        · intro h
          apply UInt8.toNat_inj.1
          rw [UInt8.toNat_ofNat_of_lt' (by simpa using hc)]
          omega
        · intro h
          rw [h, UInt8.toNat_ofNat_of_lt' (by simpa using hc)]
      have h47 : ((l[i].toNat : Int) = 47) ↔ l[i] = 47 := hu 47 (by omega)
      have h63 : ((l[i].toNat : Int) = 63) ↔ l[i] = 63 := hu 63 (by omega)
      have g1 : (paEmb l k i ps).1 = (k : Int) := rfl
      have g2 : (paEmb l k i ps).2.1 = (i : Int) := rfl
      have c1 : (0 : Int) ≤ (i : Int) := by omega
      have c2 : (i : Int) < (l.length : Int) := by omega
      simp only [g1, g2, slen_st] at hr
      simp only [g1, g2, slen_st]
      simp only [hr]
      simp only [lt_d, eq_d, cond_dec, bt_st l i hi]
      simp only [nite_pos c1, nite_pos c2, if_pos c2]
      simp only [h47, h63, ha, hak]
      by_cases q1 : l[i] = 47
      · have q3 : ¬ l[i] = 63 := by rw [q1]; decide
        rw [if_pos q1]
        by_cases q2 : k = 0
        · rw [if_pos (by omega), if_pos (.inl ⟨q1, q2⟩)]; rfl
        · rw [if_neg (by omega), if_neg q3, if_neg (by rintro (h | h); exact q2 h.2; exact q3 h.1)]
      · rw [if_neg q1]
        by_cases q3 : l[i] = 63
        · rw [if_pos q3]
          by_cases q2 : k = 1
          · rw [if_pos (by omega), if_pos (.inr ⟨q3, q2⟩)]; rfl
          · rw [if_neg (by omega), if_neg (by rintro (h | h); exact q1 h.1; exact q2 h.2)]
        · rw [if_neg q3, if_neg (by rintro (h | h); exact q1 h.1; exact q3 h.1)]
    · have hlen : N.len (ps.map St) = 3 := by rw [len_d, List.length_map, hp]; rfl
      have g1 : (paEmb l k l.length ps).1 = (k : Int) := rfl
      have g2 : (paEmb l k l.length ps).2.1 = (l.length : Int) := rfl
      have g3 : (paEmb l k l.length ps).2.2 = ps.map St := rfl
      have r0 : N.rd (ps.map St) 0 N.nostr = St (ps.getD 0 []) := rd_map (k := 0) (by omega)
      have r1 : N.rd (ps.map St) 1 N.nostr = St (ps.getD 1 []) := rd_map (k := 1) (by omega)
      have r2 : N.rd (ps.map St) 2 N.nostr = St (ps.getD 2 []) := rd_map (k := 2) (by omega)
      have b0 := hb 0
      have b1 := hb 1
      have b2 := hb 2
      simp only [g1, g2, g3, slen_st, lt_d, cond_dec, hlen, r0, r1, r2]
      rw [if_neg (by omega), nite_pos (by omega), spec_ParseInt_is _ (by omega), bind_some', nite_pos (by omega), spec_ParseInt_is _ (by omega), bind_some']
      simp only [eq_d, cond_dec]
      unfold paFin
      by_cases hk2 : k = 2
      · rw [if_pos (by omega), nite_pos (by omega), spec_ParseInt_is _ (by omega), bind_some']
        simp only [hk2, if_true, true_implies]
        cases (pintP (ps.getD 0 [])).2
        · rfl
        · cases (pintP (ps.getD 1 [])).2
          · rfl
          · cases (pintP (ps.getD 2 [])).2
            · rfl
            · simp only [N.not, Bool.not_true, cond_false, spec_AddressText_is, bind_some', neS_d, cond_dec, st_inj, true_and]
              by_cases he : addrT ((pintP (ps.getD 0 [])).1, (pintP (ps.getD 1 [])).1, (pintP (ps.getD 2 [])).1) = l
              · rw [if_pos he, if_neg (by unfold addrT at he; simpa using he)]; rfl
              · rw [if_neg he, if_pos (by unfold addrT at he; exact he)]; rfl
      · rw [if_neg (by omega)]
        simp only [hk2, if_false, false_implies]
        cases (pintP (ps.getD 0 [])).2
        · rfl
        · cases (pintP (ps.getD 1 [])).2
          · rfl
          · simp only [N.not, Bool.not_true, cond_false, spec_AddressText_is, bind_some', neS_d, cond_dec, st_inj, true_and]
            by_cases he : addrT ((pintP (ps.getD 0 [])).1, (pintP (ps.getD 1 [])).1, 0) = l
            · rw [if_pos he, if_neg (by unfold addrT at he; simpa using he)]; rfl
            · rw [if_neg he, if_pos (by unfold addrT at he; exact he)]; rfl
    · have : ∀ j, ([[], [], []] : List (List UInt8)).getD j [] = [] := fun j => by
        match j with
        | 0 => rfl
        | 1 => rfl
        | 2 => rfl
        | n + 3 => rfl
      rw [this j]; simp
  refine ⟨_, e, paFin_is _ fun h => by rw [h]; rfl, fun y h1 h2 => ?_⟩
  rw [← h2]; exact paF_addr h1
end D
end Go.Sh
set_option linter.unusedVariables false
set_option linter.unusedSimpArgs false
set_option maxHeartbeats 2000000
namespace Go.Sh
open Go Data
namespace D
/-! ## Shown addresses out of texts -/
def ShownIs (l : List UInt8) (r : Shown × Bool) : Prop :=
  (r = ((0, (0, 0, 0)), false) ∨ (shownP r.1 = true ∧ shownL r.1 = l ∧ r.2 = true)) ∧ ∀ y, shownP y = true → shownL y = l → r = (y, true)
theorem shownIs_one {l : List UInt8} {r r' : Shown × Bool} (h : ShownIs l r) (h' : ShownIs l r') : r = r' := by
  rcases h.1 with e | ⟨h1, h2, h3⟩
  · rcases h'.1 with e' | ⟨h1, h2, h3⟩
    · rw [e, e']
    · have := h.2 _ h1 h2
      rw [this]
      obtain ⟨a, b⟩ := r'
      simp only at h3
      rw [h3]
  · have := h'.2 _ h1 h2
    rw [this]
    obtain ⟨a, b⟩ := r
    simp only at h3
    rw [h3]
def preL : List UInt8 := [97, 114, 99, 104, 105, 118, 101, 47]
theorem shownL_is (y : Shown) : shownL y = preL ++ (dec y.1 ++ 47 :: addrL y.2) := by
  unfold shownL preL; rw [List.append_assoc]
theorem shownL_pos (y : Shown) : shownL y ≠ [] := by unfold shownL; simp

theorem cutPrefix_is (l : List UInt8) : ∃ b, strings_CutPrefix (St l) (N.lit preL) = some (St (Lib.trimPrefix l preL), b) := ⟨_, rfl⟩
theorem trim_len (l : List UInt8) : (Lib.trimPrefix l preL).length ≤ l.length := by
  unfold Lib.trimPrefix; split <;> simp
theorem trim_at (r : List UInt8) : Lib.trimPrefix (preL ++ r) preL = r := by
  unfold Lib.trimPrefix Lib.hasPrefix
  rw [if_pos (by rw [List.isPrefixOf_iff_prefix]; exact List.prefix_append _ _)]
  simp

theorem impl_ParseShown_is (l : List UInt8) (h : l.length ≤ 2097152) : ∃ r, impl_ParseShown (St l) = some r ∧ ShownIs l r := by
  unfold impl_ParseShown
  obtain ⟨b0, e0⟩ := cutPrefix_is l
  have l0 := trim_len l
  obtain ⟨b1, e1⟩ := cutAt_is 47 (Lib.trimPrefix l preL) (by omega)
  have l1 := cutC_len 47 (Lib.trimPrefix l preL)
  obtain ⟨r, hr, ha⟩ := impl_ParseAddress_is (cutC 47 (Lib.trimPrefix l preL)).2 (by omega)
  have e0 : strings_CutPrefix (St l) (N.lit [97, 114, 99, 104, 105, 118, 101, 47]) = some (St (Lib.trimPrefix l preL), b0) := e0
  simp only [e0, e1, bind_some', impl_ParseInt_is _ (show (cutC 47 (Lib.trimPrefix l preL)).1.length ≤ 2097152 by omega), hr, impl_ShownText_is, eqS_d, neS_d, cond_dec, nostr_st, st_inj]
  have hc : ∀ y, shownP y = true → shownL y = l → ((pintP (cutC 47 (Lib.trimPrefix l preL)).1).1, r.1) = y := by
    intro y hy hl
    obtain ⟨h1, h2⟩ := (shownP_is y).1 hy
    have q1 : cutC 47 (Lib.trimPrefix l preL) = (dec y.1, addrL y.2) := by
      rw [← hl, shownL_is, trim_at]
      exact cutC_at _ (no47 (dec_dig (by omega) (by omega)))
    rw [q1] at ha ⊢
    rw [ha.2 y.2 h2 rfl, pintP_int (by omega) (by omega)]
  by_cases h0 : l = []
  · rw [if_pos h0]
    exact ⟨_, rfl, .inl rfl, fun y _ hy => absurd (hy.trans h0) (shownL_pos y)⟩
  · rw [if_neg h0]
    by_cases ht : shownT ((pintP (cutC 47 (Lib.trimPrefix l preL)).1).1, r.1) = l
    · rw [if_neg (by simpa using ht)]
      refine ⟨_, rfl, .inr ?_, fun y h1 h2 => by rw [hc y h1 h2]⟩
      unfold shownT at ht
      split at ht
      · rename_i hp; exact ⟨hp, ht, rfl⟩
      · exact absurd ht.symm h0
    · rw [if_pos ht]
      refine ⟨_, rfl, .inl rfl, fun y h1 h2 => absurd ?_ ht⟩
      unfold shownT
      rw [hc y h1 h2, if_pos h1, h2]

def fi : List UInt8 → Nat
  | [] => 0
  | b :: r => if b = 47 then 0 else fi r + 1
theorem fi_le : ∀ l : List UInt8, fi l ≤ l.length
  | [] => Nat.le_refl _
  | b :: r => by
    have := fi_le r
    rw [fi]; split <;> simp; omega
theorem fi_at : ∀ {a : List UInt8} (r : List UInt8), (∀ b ∈ a, b ≠ 47) → fi (a ++ 47 :: r) = a.length
  | [], r, _ => by simp [fi]
  | b :: a, r, h => by
    show fi (b :: (a ++ 47 :: r)) = _
    rw [fi, if_neg (h b (by simp)), fi_at r fun x hx => h x (by simp [hx])]; rfl

theorem ps_loop {R : Type} {step : Int → Option (Int ⊕ R)} {l : List UInt8} {FIN : Nat → Option R} (ht : ∀ j, 8 ≤ j → j ≤ l.length → ∃ r, FIN j = some r)
    (hstep : ∀ (i : Nat) (hi : i < l.length), 8 ≤ i → step (i : Int) = if l[i] = 47 then (FIN i).map Sum.inr else some (.inl ((i + 1 : Nat) : Int)))
    (hend : 8 ≤ l.length → step (l.length : Int) = (FIN l.length).map Sum.inr) : ∀ (m i : Nat), i + m = l.length → 8 ≤ i → loopF step (i : Int) = FIN (i + fi (l.drop i)) := by
  intro m
  induction m with
  | zero =>
    intro i h h8
    have : i = l.length := by omega
    subst this
    obtain ⟨r, hr⟩ := ht l.length h8 (Nat.le_refl _)
    have he := hend h8
    rw [hr] at he
    rw [loopF_inr he, List.drop_length, fi, Nat.add_zero, hr]
  | succ m ih =>
    intro i h h8
    have hi : i < l.length := by omega
    have hs := hstep i hi h8
    rw [List.drop_eq_getElem_cons hi, fi]
    by_cases hc : l[i] = 47
    · rw [if_pos hc] at hs ⊢
      obtain ⟨r, hr⟩ := ht i h8 (by omega)
      rw [hr] at hs
      rw [loopF_inr hs, Nat.add_zero, hr]
    · rw [if_neg hc] at hs ⊢
      rw [loopF_inl hs, ih (i + 1) (by omega) (by omega)]
      congr 1; omega

noncomputable def psFin (x0 : ByteArray) (s1 : Int) : Option (Shown × Bool) :=
  N.cond (N.eq s1 (N.slen x0))
    (some ((0, (0, 0, 0)), false))
    (N.ite (8 ≤ s1)
      (N.ite (s1 ≤ N.slen x0)
        (N.bind (spec_ParseInt (N.scut x0 8 s1)) fun r4 =>
          N.ite (0 ≤ N.add .i64 s1 1)
            (N.ite (N.add .i64 s1 1 ≤ N.slen x0)
              (N.ite (N.slen x0 ≤ N.slen x0)
                (N.bind (spec_ParseAddress (N.scut x0 (N.add .i64 s1 1) (N.slen x0))) fun r5 =>
                  N.cond (N.not r4.2)
                    (some ((0, (0, 0, 0)), false))
                    (N.cond (N.not r5.2)
                      (some ((0, (0, 0, 0)), false))
                      (N.bind (spec_ShownText (r4.1, r5.1)) fun r6 =>
                        N.cond (N.neS r6 x0)
                          (some ((0, (0, 0, 0)), false))
                          (some ((r4.1, r5.1), true)))))
                none)
              none)
            none)
        none)
      none)
theorem psFin_is {l : List UInt8} (hl : l.length ≤ 2097152) (h9 : 9 ≤ l.length) {j : Nat} (h8 : 8 ≤ j) (hj : j ≤ l.length) :
    ∃ r, psFin (St l) (j : Int) = some r ∧ (r = ((0, (0, 0, 0)), false) ∨ (shownP r.1 = true ∧ shownL r.1 = l ∧ r.2 = true)) ∧
      ∀ y : Shown, shownP y = true → j < l.length → (l.drop 8).take (j - 8) = dec y.1 → l.drop (j + 1) = addrL y.2 → shownL y = l → r = (y, true) := by
  unfold psFin
  rw [slen_st, eq_d, cond_dec]
  by_cases he : j = l.length
  · rw [if_pos (by omega)]
    exact ⟨_, rfl, .inl rfl, fun y _ hlt => by omega⟩
  · have ha : N.add .i64 (j : Int) 1 = ((j + 1 : Nat) : Int) := by rw [add_id (by omega) (by omega)]; rfl
    rw [if_neg (by omega), nite_pos (by omega), nite_pos (by omega), ha]
    have hs1 : N.scut (St l) 8 (j : Int) = St ((l.drop 8).take (j - 8)) := scut_st l 8 j
    have hs2 : N.scut (St l) ((j + 1 : Nat) : Int) (l.length : Int) = St (l.drop (j + 1)) := by
      rw [scut_st, List.take_of_length_le (by simp)]
    have b1 : ((l.drop 8).take (j - 8)).length ≤ 2097152 := by simp; omega
    have b2 : (l.drop (j + 1)).length ≤ 2097152 := by simp; omega
    obtain ⟨ra, hra, hai⟩ := spec_ParseAddress_is (l.drop (j + 1)) b2
    rw [hs1, hs2, spec_ParseInt_is _ b1, bind_some', nite_pos (by omega), nite_pos (by omega), nite_pos (Int.le_refl _), hra, bind_some']
    have hq : ∀ y : Shown, shownP y = true → (l.drop 8).take (j - 8) = dec y.1 → l.drop (j + 1) = addrL y.2 → pintP ((l.drop 8).take (j - 8)) = (y.1, true) ∧ ra = (y.2, true) := fun y hy e1 e2 => by
      obtain ⟨h1, h2⟩ := (shownP_is y).1 hy
      exact ⟨by rw [e1]; exact pintP_int (by omega) (by omega), hai.2 y.2 h2 e2.symm⟩
    generalize pintP ((l.drop 8).take (j - 8)) = pp at hq
    obtain ⟨p1, p2⟩ := pp
    obtain ⟨a1, a2⟩ := ra
    cases p2
    · exact ⟨_, rfl, .inl rfl, fun y hy _ e1 e2 _ => by have := (hq y hy e1 e2).1; simp at this⟩
    cases a2
    · exact ⟨_, rfl, .inl rfl, fun y hy _ e1 e2 _ => by have := (hq y hy e1 e2).2; simp at this⟩
    simp only [N.not, Bool.not_true, cond_false, spec_ShownText_is, bind_some', neS_d, cond_dec, st_inj]
    by_cases ht : shownT (p1, a1) = l
    · rw [if_neg (by simpa using ht)]
      refine ⟨_, rfl, .inr ?_, fun y hy _ e1 e2 _ => ?_⟩
      · unfold shownT at ht
        split at ht
        · rename_i hp; exact ⟨hp, ht, rfl⟩
        · rw [← ht] at h9; simp at h9
      · obtain ⟨q1, q2⟩ := hq y hy e1 e2
        simp only [Prod.mk.injEq, and_true] at q1 q2
        rw [q1, q2]
    · rw [if_pos ht]
      refine ⟨_, rfl, .inl rfl, fun y hy _ e1 e2 hl2 => absurd ?_ ht⟩
      obtain ⟨q1, q2⟩ := hq y hy e1 e2
      simp only [Prod.mk.injEq, and_true] at q1 q2
      unfold shownT
      rw [q1, q2, if_pos hy, hl2]

theorem spec_ParseShown_is (l : List UInt8) (hl : l.length ≤ 2097152) : ∃ r, spec_ParseShown (St l) = some r ∧ ShownIs l r := by
  have hshape : ∀ y : Shown, shownP y = true → shownL y = l → 9 ≤ l.length ∧ l.take 8 = preL ∧ l.drop 8 = dec y.1 ++ 47 :: addrL y.2 := fun y hy e => by
    rw [← e, shownL_is]
    refine ⟨?_, rfl, rfl⟩
    simp [preL]; omega
  unfold spec_ParseShown
  rw [slen_st, lt_d, cond_dec]
  by_cases h9 : l.length < 9
  · rw [if_pos (by omega)]
    exact ⟨_, rfl, .inl rfl, fun y hy e => by have := (hshape y hy e).1; omega⟩
  rw [if_neg (by omega), nite_pos (by omega)]
  have hs0 : N.scut (St l) 0 8 = St (l.take 8) := by
    have := scut_st l 0 8
    rw [List.drop_zero] at this
    exact this
  rw [hs0, lit_st, neS_d, cond_dec]
  simp only [st_inj]
  by_cases hp : l.take 8 = preL
  · rw [if_neg (by simpa [preL] using hp)]
    have h9' : 9 ≤ l.length := by omega
    have hloop := ps_loop (step := fun s1 : Int =>
        N.cond (N.lt s1 (N.slen (St l)))
          (N.ite (0 ≤ s1) (N.ite (s1 < N.slen (St l)) (N.cond (N.ne (N.bt (St l) s1) 47) (some (.inl (N.add .i64 s1 1))) (Option.map Sum.inr (psFin (St l) s1))) none) none)
          (Option.map Sum.inr (psFin (St l) s1))) (l := l) (FIN := fun j => psFin (St l) (j : Int))
      (fun j h8 hj => by obtain ⟨r, hr, _⟩ := psFin_is hl h9' h8 hj; exact ⟨r, hr⟩)
      (fun i hi h8 => by
        have hu : ((l[i].toNat : Int) = 47) ↔ l[i] = 47 := by
          constructor
          · intro h
            apply UInt8.toNat_inj.1
            show l[i].toNat = 47
            omega
          · intro h; rw [h]; rfl
        have ha : N.add .i64 (i : Int) 1 = ((i + 1 : Nat) : Int) := by rw [add_id (by omega) (by omega)]; rfl
        simp only [slen_st, lt_d, ne_d, cond_dec, bt_st l i hi, hu, ha]
        rw [if_pos (by omega), nite_pos (by omega), nite_pos (by omega)]
        by_cases h : l[i] = 47
        · rw [if_neg (by simpa using h), if_pos h]
        · rw [if_pos h, if_neg h])
      (fun h8 => by
        simp only [slen_st, lt_d, cond_dec]
        rw [if_neg (by omega)])
      (l.length - 8) 8 (by omega) (Nat.le_refl _)
    have hfl := fi_le (l.drop 8)
    simp only [List.length_drop] at hfl
    obtain ⟨r, hr, h1, h2⟩ := psFin_is hl h9' (j := 8 + fi (l.drop 8)) (by omega) (by omega)
    refine ⟨r, hloop.trans hr, h1, fun y hy e => ?_⟩
    obtain ⟨_, _, e3⟩ := hshape y hy e
    obtain ⟨y1, y2⟩ := (shownP_is y).1 hy
    have hf : fi (l.drop 8) = (dec y.1).length := by rw [e3]; exact fi_at _ (no47 (dec_dig (by omega) (by omega)))
    have hlen := congrArg List.length e3
    simp only [List.length_drop, List.length_append, List.length_cons] at hlen
    refine h2 y hy (by omega) ?_ ?_ e
    · rw [hf, e3, show 8 + (dec y.1).length - 8 = (dec y.1).length by omega, List.take_left]
    · have : l.drop (8 + fi (l.drop 8) + 1) = (l.drop 8).drop (fi (l.drop 8) + 1) := by rw [List.drop_drop]; congr 1
      rw [this, hf, e3, ← List.drop_drop]
      simp
  · rw [if_pos (by simpa [preL] using hp)]
    exact ⟨_, rfl, .inl rfl, fun y hy e => absurd (hshape y hy e).2.1 hp⟩

theorem parseShown_same (l : List UInt8) (hl : l.length ≤ 2097152) : ∃ r, spec_ParseShown (St l) = some r ∧ impl_ParseShown (St l) = some r ∧ ShownIs l r := by
  obtain ⟨r, h1, h2⟩ := spec_ParseShown_is l hl
  obtain ⟨r', h1', h2'⟩ := impl_ParseShown_is l hl
  rw [← shownIs_one h2 h2'] at h1'
  exact ⟨r, h1, h1', h2⟩
end D
end Go.Sh
set_option linter.unusedVariables false
set_option linter.unusedSimpArgs false
set_option maxHeartbeats 2000000
namespace Go.Sh
open Go Data
namespace D
/-- is it the text of a shown address -/
noncomputable def okT (s : ByteArray) : Bool := @decide (∃ y, shownP y = true ∧ St (shownL y) = s) (Classical.propDecidable _)
theorem okT_of {l : List UInt8} {r : Shown × Bool} (h : ShownIs l r) : r.2 = okT (St l) := by
  unfold okT
  by_cases hx : ∃ y, shownP y = true ∧ St (shownL y) = St l
  · obtain ⟨y, h1, h2⟩ := hx
    rw [h.2 y h1 (st_inj.1 h2)]
    exact (@decide_eq_true _ (Classical.propDecidable _) ⟨y, h1, h2⟩).symm
  · rw [@decide_eq_false _ (Classical.propDecidable _) hx]
    rcases h.1 with e | ⟨h1, h2, h3⟩
    · rw [e]
    · exact absurd ⟨r.1, h1, by rw [h2]⟩ hx
theorem seen_same (l : List UInt8) (hl : l.length ≤ 2097152) : ∃ r, spec_SeenByScript (St l) = some r ∧ impl_SeenByScript (St l) = some r ∧ (okT (St l) = true ↔ ¬ r = St []) ∧ ∀ y, shownP y = true → shownL y = l → r = St (addrL y.2) := by
  obtain ⟨r, h1, h2, h3⟩ := parseShown_same l hl
  unfold spec_SeenByScript impl_SeenByScript
  simp only [h1, h2, bind_some', spec_AddressText_is, impl_AddressText_is]
  rw [← okT_of h3]
  rcases h3.1 with e | ⟨a, b, c⟩
  · rw [e]
    refine ⟨St [], rfl, rfl, by simp, fun y hy hl2 => ?_⟩
    have := h3.2 y hy hl2
    rw [e] at this
    simp at this
  · rw [c]
    have ha := ((shownP_is _).1 a).2
    refine ⟨St (addrL r.1.2), by simp only [N.not, Bool.not_true, cond_false]; rw [if_pos ha], by simp only [N.not, Bool.not_true, cond_false]; rw [if_pos ha], ?_, fun y hy hl2 => ?_⟩
    · constructor
      · intro _ he; exact addrL_pos _ (st_inj.1 he)
      · intro _; trivial
    · rw [h3.2 y hy hl2]
/-! ## Lists of texts -/
theorem parse_bytes (s : ByteArray) (hs : s.size ≤ 2097152) : ∃ r, spec_ParseShown s = some r ∧ impl_ParseShown s = some r ∧ r.2 = okT s := by
  obtain ⟨l, rfl⟩ := st_ex s
  rw [size_st] at hs
  obtain ⟨r, h1, h2, h3⟩ := parseShown_same l hs
  exact ⟨r, h1, h2, okT_of h3⟩
theorem index_is {xs : List ByteArray} (h : xs.length ≤ 1048576) (hb : ∀ s ∈ xs, s.size ≤ 2097152) : ∃ i, slices_IndexFunc_string_impl_StaysInside_1 xs = some i ∧ (0 ≤ i ↔ xs.all okT = false) := by
  unfold slices_IndexFunc_string_impl_StaysInside_1
  have key : ∀ (step : Int → Option (Int ⊕ Int)), (∀ (k : Nat) (hk : k < xs.length), step (k : Int) = some (if okT xs[k] = true then .inl ((k + 1 : Nat) : Int) else .inr (k : Int))) → step (xs.length : Int) = some (.inr (-1)) →
      ∀ (m k : Nat), k + m = xs.length → ∃ i, loopF step (k : Int) = some i ∧ (0 ≤ i ↔ (xs.drop k).all okT = false) := by
    intro step hs he m
    induction m with
    | zero =>
      intro k hk
      have : k = xs.length := by omega
      subst this
      exact ⟨-1, loopF_inr he, by simp⟩
    | succ m ih =>
      intro k hk
      have hk' : k < xs.length := by omega
      have h1 := hs k hk'
      rw [List.drop_eq_getElem_cons hk']
      by_cases ho : okT xs[k] = true
      · rw [if_pos ho] at h1
        obtain ⟨i, e1, e2⟩ := ih (k + 1) (by omega)
        exact ⟨i, by rw [loopF_inl h1]; exact e1, by rw [e2, List.all_cons, ho, Bool.true_and]⟩
      · rw [if_neg ho] at h1
        have ho' : okT xs[k] = false := by simpa using ho
        exact ⟨k, loopF_inr h1, by rw [List.all_cons, ho', Bool.false_and]; simp⟩
  refine (key _ (fun k hk => ?_) ?_ xs.length 0 (by omega)).imp fun i hi => by rw [List.drop_zero] at hi; exact hi
  · have h0 : (0 : Int) ≤ (k : Int) := by omega
    have h1 : (k : Int) < (xs.length : Int) := by omega
    obtain ⟨r, e1, e2, e3⟩ := parse_bytes xs[k] (hb _ (List.getElem_mem hk))
    simp only [ite_if]; simp only [lt_d, len_d, cond_dec, h0, h1, if_true, rd_at xs k hk, impl_StaysInside_1, e2, bind_some', e3, next_id hk (by omega)]
    cases okT xs[k] <;> simp [N.not]
  · simp only [lt_d, len_d, cond_dec]; rw [if_neg (by omega)]
theorem impl_StaysInside_is {xs : List ByteArray} (h : xs.length ≤ 1048576) (hb : ∀ s ∈ xs, s.size ≤ 2097152) : impl_StaysInside xs = some (xs.all okT) := by
  unfold impl_StaysInside slices_ContainsFunc_string_impl_StaysInside_1
  obtain ⟨i, e1, e2⟩ := index_is h hb
  simp only [e1, bind_some', ge_d]
  cases ha : xs.all okT
  · rw [ha] at e2; simp [N.not, e2]
  · rw [ha] at e2; simp [N.not] at e2 ⊢; omega

end D
end Go.Sh
set_option linter.unusedVariables false
set_option linter.unusedSimpArgs false
set_option maxHeartbeats 2000000
namespace Go.Sh
open Go Data
namespace D
theorem drawShown_is {x : List Int} (h : x.length ≤ 1048576) : Gets (fun _ => True) (spec_DrawShownText x) :=
  Gets.bind (spec_l1New_is h) fun c hc => Gets.bind (spec_l4Any_is hc) fun r ⟨h1, h2⟩ => Gets.bind (spec_l1Int_is h2 (by simp) (by simp [ok])) fun r2 ⟨h3, h4⟩ => Gets.pure trivial

theorem shownT_len (x : Shown) : (shownT x).length ≤ 200 := by
  unfold shownT
  split
  · rename_i h
    obtain ⟨h1, h2⟩ := (shownP_is x).1 h
    have a := addrL_len h2
    have b := dec_le (n := x.1) (by omega) (by omega)
    unfold shownL
    simp; omega
  · simp
def fewB (s : ByteArray) : Prop := s.size ≤ 1000
theorem fewB_st {l : List UInt8} (h : l.length ≤ 1000) : fewB (St l) := by unfold fewB; rw [size_st]; exact h
theorem l21Text_is {c : l1Cur} (h : curOk c) : Gets (fun r => fewB r.1 ∧ curOk r.2) (spec_l21Text c) := by
  refine Gets.bind (spec_l1Below_is h (by omega)) fun r ⟨h1, h2⟩ => Gets.bind (spec_l4Draw_is h2) fun r2 ⟨h3, h4⟩ => ?_
  rw [spec_ShownText_is, bind_some']
  have hl := shownT_len (r.1, r2.1)
  generalize shownT (r.1, r2.1) = l at hl
  simp only [lit_st, nostr_st]
  refine Gets.ite (fits_st (by simp; omega)) (Gets.ite (fits_st (by simp; omega)) ?_)
  rw [cat_st, cat_st]
  refine Gets.bind (P := fun r => fewB r.1 ∧ curOk r.2) ?_ fun r hr => Gets.pure hr
  unfold spec_l1Str
  refine Gets.bind (spec_l1Below_is h4 (by simp [N.len])) fun r3 ⟨h5, h6⟩ => Gets.ite h5.1 (Gets.ite h5.2 (Gets.pure ⟨?_, h6⟩))
  obtain ⟨k, hk⟩ : ∃ k : Nat, r3.1 = k := ⟨r3.1.toNat, by omega⟩
  have hk2 : k < 11 := by have := h5.2; rw [hk] at this; simp [N.len] at this; omega
  rw [hk]
  match k, hk2 with
  | 0, _ => exact fewB_st (by omega)
  | 1, _ => exact fewB_st (by omega)
  | 2, _ => exact fewB_st (by omega)
  | 3, _ => exact fewB_st (by simp; omega)
  | 4, _ => exact fewB_st (by simp; omega)
  | 5, _ => exact fewB_st (by simp)
  | 6, _ => exact fewB_st (by simp)
  | 7, _ => exact fewB_st (by simp)
  | 8, _ => exact fewB_st (by simp)
  | 9, _ => exact fewB_st (by simp)
  | 10, _ => exact fewB_st (by simp)
  | n + 11, h => omega
theorem drawParse_is {x : List Int} (h : x.length ≤ 1048576) : Gets fewB (spec_DrawParseShown x) :=
  Gets.bind (spec_l1New_is h) fun c hc => Gets.bind (l21Text_is hc) fun r ⟨h1, h2⟩ => Gets.pure h1
def moveOk (r : Int × List Int × Int × Int × Int × Int) : Prop := r.2.1.length ≤ 100
theorem drawMove_is {x : List Int} (h : x.length ≤ 1048576) : Gets moveOk (spec_DrawShowMove x) := by
  refine Gets.bind (spec_l1New_is h) fun c hc => Gets.bind (spec_l5Any_is hc) fun r ⟨⟨a1, a2, a3, a4, a5⟩, h2⟩ => Gets.bind (spec_l1Once_is h2 (by omega)) fun r3 h3 => Gets.cond (fun _ => ?_) fun _ => ?_
  · exact Gets.bind (spec_l4Draw_is h3) fun r4 ⟨_, h5⟩ => Gets.bind (spec_l1Int_is h5 (by simp) (by simp [ok])) fun r5 _ => Gets.pure (by show (0 : Nat) ≤ 100; omega)
  · exact Gets.bind (spec_l1Int_is h3 (by simp) (by simp [ok])) fun r5 _ => Gets.pure (by have := a2.1; show r.2.1.length ≤ 100; omega)

def moveT (R : Resource) (t : Int) : List UInt8 := if resP R = true ∧ R.1 = 3 then shownT (t, R.2.2) else []
theorem impl_ShowMove_is {R : Resource} (hl : R.2.1.length ≤ 4611686018427387904) (t : Int) : impl_ShowMove R t = some (St (moveT R t)) := by
  unfold impl_ShowMove moveT
  rw [impl_IsResource_is hl]
  simp only [impl_ShownText_is, bind_some', N.not, ne_d, cond_dec]
  cases hr : resP R
  · simp only [Bool.not_false, cond_true, nostr_st]
    rw [if_neg (fun e => by cases e.1)]
  · simp only [Bool.not_true, cond_false, true_and]
    by_cases h3 : R.1 = 3
    · rw [if_neg (by simpa using h3), if_pos h3]
    · rw [if_pos h3, if_neg h3]; rfl
theorem okT_shown (y : Shown) (h : shownP y = true) : okT (St (shownL y)) = true := by
  unfold okT
  exact @decide_eq_true _ (Classical.propDecidable _) ⟨y, h, rfl⟩

theorem shTail_is (R : Resource) (t : Int) (b : Bool) (hb : b = okT (St (moveT R t))) :
    N.cond (resP R)
      (N.cond (N.eq R.1 3)
        (N.cond (N.ge t 0)
          (N.cond (N.eqB (N.neS (St (moveT R t)) N.nostr) (N.le t 2000)) (N.cond (N.eqS (St (moveT R t)) N.nostr) (some true) (some b)) (some false))
          (N.cond (N.eqB (N.neS (St (moveT R t)) N.nostr) false) (N.cond (N.eqS (St (moveT R t)) N.nostr) (some true) (some b)) (some false)))
        (N.cond (N.eqB (N.neS (St (moveT R t)) N.nostr) false) (N.cond (N.eqS (St (moveT R t)) N.nostr) (some true) (some b)) (some false)))
      (N.cond (N.eqB (N.neS (St (moveT R t)) N.nostr) false) (N.cond (N.eqS (St (moveT R t)) N.nostr) (some true) (some b)) (some false)) = some true := by
  have nil : moveT R t = [] → N.cond (N.eqB (N.neS (St (moveT R t)) N.nostr) false) (N.cond (N.eqS (St (moveT R t)) N.nostr) (some true) (some b)) (some false) = some true := fun h => by
    rw [h, nostr_st, neS_d, eqS_d]
    simp [N.eqB, N.cond]
  cases hr : resP R
  · exact nil (by unfold moveT; rw [hr, if_neg (by simp)])
  · simp only [cond_true, eq_d, cond_dec]
    by_cases h3 : R.1 = 3
    · rw [if_pos h3]
      have ha : addrP R.2.2 = true := by
        unfold resP at hr
        rw [if_neg (by omega), if_pos h3] at hr
        simp only [Bool.and_eq_true] at hr
        exact hr.2
      have hm : moveT R t = shownT (t, R.2.2) := by unfold moveT; rw [if_pos ⟨hr, h3⟩]
      have hsp : ¬ (0 ≤ t ∧ t ≤ 2000) → moveT R t = [] := fun h => by
        rw [hm]; unfold shownT
        rw [if_neg fun e => h ((shownP_is _).1 e).1]
      simp only [ge_d, le_d, cond_dec]
      by_cases h0 : 0 ≤ t
      · rw [if_pos h0]
        by_cases h2 : t ≤ 2000
        · have hp : shownP (t, R.2.2) = true := (shownP_is _).2 ⟨⟨h0, h2⟩, ha⟩
          have hq : moveT R t = shownL (t, R.2.2) := by rw [hm]; unfold shownT; rw [if_pos hp]
          have cs : N.neS (St (shownL (t, R.2.2))) N.nostr = true := by rw [nostr_st, neS_d]; simp [st_inj, shownL_pos]
          rw [hb, hq, okT_shown _ hp, decide_eq_true h2, cs]
          simp [N.eqB, N.cond]
        · have := nil (hsp fun e => h2 e.2)
          rw [decide_eq_false h2]
          exact this
      · rw [if_neg h0]; exact nil (hsp fun e => h0 e.1)
    · rw [if_neg h3]; exact nil (by unfold moveT; rw [if_neg fun e => h3 e.2])

theorem FnShown_true (x : List Int) (hx : bd x) : laws_FnShown x = some true := by
  unfold laws_FnShown laws_big
  rw [bind_some', gt_d, cond_dec, len_d]
  by_cases hbig : (1048576 : Int) < (x.length : Int)
  · rw [if_pos hbig]
  rw [if_neg hbig]
  have hl : x.length ≤ 1048576 := by omega
  obtain ⟨y, e2, _⟩ := drawShown_is hl
  obtain ⟨t, e8, ht⟩ := drawParse_is hl
  obtain ⟨t, rfl⟩ := st_ex t
  unfold fewB at ht
  rw [size_st] at ht
  obtain ⟨d, e13, hd⟩ := drawMove_is hl
  have hyl := shownT_len y
  obtain ⟨r5, _, e5, h5⟩ := parseShown_same (shownT y) (by omega)
  obtain ⟨s6, _, e6, _, h6⟩ := seen_same (shownT y) (by omega)
  obtain ⟨r9, _, e9, h9⟩ := parseShown_same t (by omega)
  obtain ⟨s12, _, e12, h12, _⟩ := seen_same t (by omega)
  have e11 : impl_StaysInside [St t] = some (okT (St t)) := by
    rw [impl_StaysInside_is (by simp) (fun s hs => by simp only [List.mem_singleton] at hs; subst hs; rw [size_st]; omega)]
    simp
  have hR : ((d.1, d.2.1, (d.2.2.1, d.2.2.2.1, d.2.2.2.2.1)) : Resource).2.1.length ≤ 4611686018427387904 := by
    have : d.2.1.length ≤ 100 := hd
    show d.2.1.length ≤ _
    omega
  have e14 := impl_ShowMove_is hR d.2.2.2.2.2
  have e15 := impl_IsResource_is hR
  have hml : (moveT (d.1, d.2.1, (d.2.2.1, d.2.2.2.1, d.2.2.2.2.1)) d.2.2.2.2.2).length ≤ 200 := by
    unfold moveT
    split
    · exact shownT_len _
    · simp
  have e16 : impl_StaysInside [St (moveT (d.1, d.2.1, (d.2.2.1, d.2.2.2.1, d.2.2.2.2.1)) d.2.2.2.2.2)] = some (okT (St (moveT (d.1, d.2.1, (d.2.2.1, d.2.2.2.1, d.2.2.2.2.1)) d.2.2.2.2.2))) := by
    rw [impl_StaysInside_is (by simp) (fun s hs => by simp only [List.mem_singleton] at hs; subst hs; rw [size_st]; omega)]
    simp
  have htail := shTail_is (d.1, d.2.1, (d.2.2.1, d.2.2.2.1, d.2.2.2.2.1)) d.2.2.2.2.2 _ rfl
  simp only at htail
  simp only [e2, e8, e13, bind_some', impl_ShownText_is, spec_ShownText_is, e5, e6, e9, e12, e11, e14, e15, e16, impl_AddressText_is]
  simp only [htail]
  have k9 := okT_of h9
  have c12 : N.neB r9.2 (N.neS s12 N.nostr) = false := by
    rw [neS_d, nostr_st, k9, neB_d]
    by_cases ho : okT (St t) = true
    · rw [ho]; simp [h12.1 ho]
    · have ho' : okT (St t) = false := by simpa using ho
      have : s12 = St [] := by
        false_or_by_contra
        rename_i hn
        exact ho (h12.2 hn)
      rw [ho', this]; simp
  have c11 : N.neB r9.2 (okT (St t)) = false := by rw [k9, neB_d]; simp
  have hmid : N.cond r9.2 (N.cond (N.neS (St (shownT r9.1)) (St t)) (some false) (some true)) (some true) = some true := by
    rcases h9.1 with e | ⟨a, b, c⟩
    · rw [e]; rfl
    · rw [c, cond_true, neS_d, cond_dec]
      unfold shownT
      rw [if_pos a, b, if_neg (by simp)]
  simp only [c11, c12, cond_false, hmid]
  have c3 : N.neS (St (shownT y)) (St (shownT y)) = false := by rw [neS_d]; simp
  rw [c3, cond_false, nostr_st]
  by_cases hp : shownP y = true
  · have hs : shownT y = shownL y := by unfold shownT; rw [if_pos hp]
    have q5 := h5.2 y hp hs.symm
    have q6 := h6 y hp hs.symm
    have ha := ((shownP_is y).1 hp).2
    have cs : N.neS (St (shownT y)) (St []) = true := by rw [neS_d, hs]; simp [shownL_pos]
    have c67 : N.neS (St (addrL y.2)) (St (addrL y.2)) = false := by rw [neS_d]; simp
    rw [q5, cs, q6, if_pos ha, c67]
    obtain ⟨y1, y2, y3, y4⟩ := y
    simp [N.neB, N.cond, N.both, N.eq, N.not]
  · have hs : shownT y = [] := by unfold shownT; rw [if_neg hp]
    have q5 : r5 = ((0, (0, 0, 0)), false) := by
      rcases h5.1 with e | ⟨a, b, c⟩
      · exact e
      · rw [hs] at b; exact absurd b (shownL_pos _)
    have cs : N.neS (St (shownT y)) (St []) = false := by rw [neS_d, hs]; simp
    rw [q5, cs]
    simp [N.neB, N.cond]
end D
end Go.Sh
