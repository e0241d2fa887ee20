/- Functions of the library and of the program that the evaluator does not take: their contracts out of the shelf. -/
import Derived.Test.YtfipolbgkppdjaaGreatDoorSh9
import Derived.Shelf.Strconv.Itoa3
import Derived.Shelf.Strings.OnBuilder
import Derived.Ground.NamesProg
import Derived.Test.YtfipolbgkppdjaaGreatDoorProg
import Derived.Lib.AppendIntMem
import Derived.WalkSmall
import Derived.WalkKit
import Derived.Test.YtfipolbgkppdjaaGreatDoorRows
import Derived.Stop.LaidErr
import Derived.MakeChecks
import Derived.Deep.DeepHandedRow
set_option linter.unusedVariables false
namespace Go.Proofs
open Go.Shelf
def Tryz.laysItoa_ren : Go.Shelf.Ren := ⟨fun | 171 => 80 | 243 => 95 | 246 => 112 | 283 => 118 | 284 => 119 | 285 => 120 | 286 => 121 | 129 => 125 | 317 => 124 | 318 => 126 | 319 => 127 | 320 => 128 | 337 => 129 | 338 => 130 | n => n, fun | 3 => 3 | 9 => 9 | 2 => 2 | 4 => 4 | 171 => 142 | 0 => 0 | 53 => 143 | 37 => 22 | 5 => 5 | 173 => 146 | 212 => 151 | 51 => 152 | 20 => 20 | 213 => 153 | 46 => 128 | 232 => 156 | 233 => 157 | n => n, fun | 17 => 1 | 18 => 2 | 19 => 3 | n => n⟩
theorem Tryz.laysItoa : Go.Proofs.LaysM.n171 Tryz.prog Tryz.laysItoa_ren := {
  mixed := by kernel_rfl
  f129 := Tryz.func125.trans (congrArg some (by kernel_rfl))
  f171 := Tryz.func80.trans (congrArg some (by kernel_rfl))
  f243 := Tryz.func95.trans (congrArg some (by kernel_rfl))
  f246 := Tryz.func112.trans (congrArg some (by kernel_rfl))
  f283 := Tryz.func118.trans (congrArg some (by kernel_rfl))
  f284 := Tryz.func119.trans (congrArg some (by kernel_rfl))
  f285 := Tryz.func120.trans (congrArg some (by kernel_rfl))
  f286 := Tryz.func121.trans (congrArg some (by kernel_rfl))
  f317 := Tryz.func124.trans (congrArg some (by kernel_rfl))
  f318 := Tryz.func126.trans (congrArg some (by kernel_rfl))
  f319 := Tryz.func127.trans (congrArg some (by kernel_rfl))
  f320 := Tryz.func128.trans (congrArg some (by kernel_rfl))
  f337 := Tryz.func129.trans (congrArg some (by kernel_rfl))
  f338 := Tryz.func130.trans (congrArg some (by kernel_rfl))
  t0 := Tryz.underlying0
  a0 := Tryz.isAgg0
  z0 := Tryz.sizeOf0
  v0 := Tryz.zeroValue0
  t2 := Tryz.underlying2
  a2 := Tryz.isAgg2
  z2 := Tryz.sizeOf2
  v2 := Tryz.zeroValue2
  t3 := Tryz.underlying3
  a3 := Tryz.isAgg3
  z3 := Tryz.sizeOf3
  v3 := Tryz.zeroValue3
  t4 := Tryz.underlying4
  a4 := Tryz.isAgg4
  z4 := Tryz.sizeOf4
  v4 := Tryz.zeroValue4
  t5 := Tryz.underlying5
  a5 := Tryz.isAgg5
  z5 := Tryz.sizeOf5
  v5 := Tryz.zeroValue5
  t9 := Tryz.underlying9
  a9 := Tryz.isAgg9
  z9 := Tryz.sizeOf9
  v9 := Tryz.zeroValue9
  t20 := Tryz.underlying20
  a20 := Tryz.isAgg20
  z20 := Tryz.sizeOf20
  v20 := Tryz.zeroValue20
  t37 := Tryz.underlying22
  a37 := Tryz.isAgg22
  z37 := Tryz.sizeOf22
  v37 := Tryz.zeroValue22
  t46 := Tryz.underlying128
  a46 := Tryz.isAgg128
  z46 := Tryz.sizeOf128
  v46 := Tryz.zeroValue128
  t51 := Tryz.underlying152
  a51 := Tryz.isAgg152
  z51 := Tryz.sizeOf152
  v51 := Tryz.zeroValue152
  t53 := Tryz.underlying143
  a53 := Tryz.isAgg143
  z53 := Tryz.sizeOf143
  v53 := Tryz.zeroValue143
  t171 := Tryz.underlying142
  a171 := Tryz.isAgg142
  z171 := Tryz.sizeOf142
  v171 := Tryz.zeroValue142
  t173 := Tryz.underlying146
  a173 := Tryz.isAgg146
  z173 := Tryz.sizeOf146
  v173 := Tryz.zeroValue146
  t212 := Tryz.underlying151
  a212 := Tryz.isAgg151
  z212 := Tryz.sizeOf151
  v212 := Tryz.zeroValue151
  t213 := Tryz.underlying153
  a213 := Tryz.isAgg153
  z213 := Tryz.sizeOf153
  t232 := Tryz.underlying156
  a232 := Tryz.isAgg156
  z232 := Tryz.sizeOf156
  v232 := Tryz.zeroValue156
  t233 := Tryz.underlying157
  a233 := Tryz.isAgg157
  z233 := Tryz.sizeOf157
  v233 := Tryz.zeroValue157
  g17 := by kernel_rfl
  g18 := by kernel_rfl
  g19 := by kernel_rfl
  i0 := by kernel_rfl
  i2 := by kernel_rfl
  i3 := by kernel_rfl
  i4 := by kernel_rfl
  i5 := by kernel_rfl
  i9 := by kernel_rfl
  i20 := by kernel_rfl
  i37 := by kernel_rfl
  i46 := by kernel_rfl
  i51 := by kernel_rfl
  i53 := by kernel_rfl
  i171 := by kernel_rfl
  i173 := by kernel_rfl
  i212 := by kernel_rfl
  i232 := by kernel_rfl
  i233 := by kernel_rfl
  m17 := by kernel_rfl
  m18 := by kernel_rfl
  m19 := by kernel_rfl }
def Tryz.laysJoin_ren : Go.Shelf.Ren := ⟨fun | 156 => 42 | 165 => 64 | 166 => 65 | 169 => 66 | 240 => 81 | 241 => 82 | 276 => 96 | 277 => 97 | n => n, fun | 31 => 83 | 9 => 9 | 3 => 3 | 4 => 4 | 0 => 0 | 20 => 20 | 72 => 109 | 76 => 113 | 70 => 107 | 37 => 22 | 75 => 112 | 127 => 129 | 164 => 133 | 5 => 5 | 80 => 115 | n => n, fun | n => n⟩
theorem Tryz.laysJoin : Go.Proofs.Lays.n156 Tryz.prog Tryz.laysJoin_ren := {
  mixed := by kernel_rfl
  f156 := Tryz.func42.trans (congrArg some (by kernel_rfl))
  f165 := Tryz.func64.trans (congrArg some (by kernel_rfl))
  f166 := Tryz.func65.trans (congrArg some (by kernel_rfl))
  f169 := Tryz.func66.trans (congrArg some (by kernel_rfl))
  f240 := Tryz.func81.trans (congrArg some (by kernel_rfl))
  f241 := Tryz.func82.trans (congrArg some (by kernel_rfl))
  f276 := Tryz.func96.trans (congrArg some (by kernel_rfl))
  f277 := Tryz.func97.trans (congrArg some (by kernel_rfl))
  t0 := Tryz.underlying0
  a0 := Tryz.isAgg0
  z0 := Tryz.sizeOf0
  v0 := Tryz.zeroValue0
  t3 := Tryz.underlying3
  a3 := Tryz.isAgg3
  z3 := Tryz.sizeOf3
  v3 := Tryz.zeroValue3
  t4 := Tryz.underlying4
  a4 := Tryz.isAgg4
  z4 := Tryz.sizeOf4
  v4 := Tryz.zeroValue4
  t9 := Tryz.underlying9
  a9 := Tryz.isAgg9
  z9 := Tryz.sizeOf9
  v9 := Tryz.zeroValue9
  t20 := Tryz.underlying20
  a20 := Tryz.isAgg20
  z20 := Tryz.sizeOf20
  v20 := Tryz.zeroValue20
  t31 := Tryz.underlying83
  a31 := Tryz.isAgg83
  z31 := Tryz.sizeOf83
  v31 := Tryz.zeroValue83
  t37 := Tryz.underlying22
  a37 := Tryz.isAgg22
  z37 := Tryz.sizeOf22
  v37 := Tryz.zeroValue22
  t70 := Tryz.underlying107
  a70 := Tryz.isAgg107
  z70 := Tryz.sizeOf107
  v70 := Tryz.zeroValue107
  t72 := Tryz.underlying109
  a72 := Tryz.isAgg109
  z72 := Tryz.sizeOf109
  v72 := Tryz.zeroValue109
  t75 := Tryz.underlying112
  a75 := Tryz.isAgg112
  z75 := Tryz.sizeOf112
  v75 := Tryz.zeroValue112
  t76 := Tryz.underlying113
  a76 := Tryz.isAgg113
  z76 := Tryz.sizeOf113
  v76 := Tryz.zeroValue113
  t127 := Tryz.underlying129
  a127 := Tryz.isAgg129
  z127 := Tryz.sizeOf129
  v127 := Tryz.zeroValue129
  t164 := Tryz.underlying133
  a164 := Tryz.isAgg133
  z164 := Tryz.sizeOf133
  v164 := Tryz.zeroValue133 }
end Go.Proofs

namespace Go.Proofs.YtfipolbgkppdjaaGreatDoor.Ex
open Go Go.Proofs Go.RowKit Go.Shelf Go.Sort

theorem cell_lt0 {w : World} {a : Addr} {v : Value} (h : w.cell? a = some v) : a.block < w.heap.size := by
  false_or_by_contra
  rename_i hn
  have : w.heap[a.block]? = none := Array.getElem?_eq_none (by omega)
  simp [World.cell?, this] at h
theorem gT : Tryz.prog.globalNamed "internal/strconv.uint64pow10" = some 1 := by kernel_rfl

/-- the laid table of powers of ten -/
instance tabs : Go.Sh.Laid where
  ok w := Lib.TabIs Tryz.prog w "internal/strconv.uint64pow10" .u64 Lib.pow10Tab
  blk b := b = 1
  lt := fun w b h hb => by
    subst hb
    exact cell_lt0 (h.cell gT 0 (by decide))
  keep := fun w w' h hs => by
    have e : w'.heap[1]? = w.heap[1]? := hs 1 rfl
    have : w'.var? Tryz.prog "internal/strconv.uint64pow10" = w.var? Tryz.prog "internal/strconv.uint64pow10" := by
      unfold World.var?
      rw [gT]
      simp only [Option.bind_some, e]
    exact this.trans h

theorem itoa_is : Go.Sh.Contract Tryz.prog 80 { params := [.val false (.int .i64)], res := [.val false .str] } (fun n => Go.Sh.N.itoa n) :=
  Go.Sh.ext_itoa ⟨Tryz.f80, Tryz.func80, by kernel_rfl, by kernel_rfl⟩ fun n w hok h0 h1 =>
    (Any.strconv_Itoa Tryz.laysItoa n h0 h1 w hok).mono fun e w' h => by
      obtain ⟨rfl, k, os, rfl⟩ := h
      exact ⟨rfl, Lib.below_grow _ w (Nat.le_refl _) k os⟩
/-- what the rows list stands so when the call begins -/
theorem tabs_ok {W : World} (hL : laidMetH Tryz.prog [("math/bits.deBruijn32tab", Rows.laid_math_bits_deBruijn32tab), ("math/bits.deBruijn64tab", Rows.laid_math_bits_deBruijn64tab), ("internal/strconv.uint64pow10", Rows.laid_internal_strconv_uint64pow10)] W) (hsh : W.ShapedOpen Tryz.prog) : Go.Sh.Laid.ok W := by
  have h : laidMet Tryz.prog [("math/bits.deBruijn32tab", Rows.laid_math_bits_deBruijn32tab), ("math/bits.deBruijn64tab", Rows.laid_math_bits_deBruijn64tab), ("internal/strconv.uint64pow10", Rows.laid_internal_strconv_uint64pow10)] W := hL
  have h3 : laidMet Tryz.prog [("internal/strconv.uint64pow10", Lib.tabData .u64 Lib.pow10Tab)] W := h.tail.tail
  exact Lib.tabIs_of_head gT (t := 151) (e := 143) (n := 20) (by kernel_rfl) (by kernel_rfl) (by kernel_rfl) (by kernel_rfl) (by kernel_rfl) h3

def vals : DataW Unit → Array Value
  | .agg ps => (ps.map fun d => match d with | .lit (.int k n) => Value.int k n | _ => Value.bool false).toArray
  | _ => #[]
def put (d : DataW Unit) : Obj → Obj
  | .cells _ t frozen => .cells (vals d) t frozen
  | o => o
/-- the settled world, the tables holding what their initialisers lay -/
noncomputable def laidWorld (os : Os) : World :=
  { World.holding Tryz.prog os ⟨#[], #[], []⟩ with heap := (((World.holding Tryz.prog os ⟨#[], #[], []⟩).heap.modify 1 (put Rows.laid_internal_strconv_uint64pow10)).modify 2 (put Rows.laid_math_bits_deBruijn32tab)).modify 3 (put Rows.laid_math_bits_deBruijn64tab) }
theorem laid_met (os : Os) (args : Array Value) : laidMet Tryz.prog [("math/bits.deBruijn32tab", Rows.laid_math_bits_deBruijn32tab), ("math/bits.deBruijn64tab", Rows.laid_math_bits_deBruijn64tab), ("internal/strconv.uint64pow10", Rows.laid_internal_strconv_uint64pow10)] ((laidWorld os).forCall (fun _ _ => 0) ⟨#[], args, []⟩).memory :=
  laidMet_of_run' 8 (by kernel_rfl) (by kernel_rfl)
end Go.Proofs.YtfipolbgkppdjaaGreatDoor.Ex

namespace Go.Proofs.YtfipolbgkppdjaaGreatDoor.Ex
open Go Go.Proofs Go.RowKit Go.Shelf Go.Sort
theorem joinX : Builder.Extra Tryz.prog Tryz.laysJoin_ren where
  sizeBuilder := by kernel_rfl
  liesBuilder := by kernel_rfl
  t5 := Tryz.underlying5
  a5 := Tryz.isAgg5
  z5 := Tryz.sizeOf5
  v5 := Tryz.zeroValue5
  infoByte := by kernel_rfl
  cellsByte := by kernel_rfl
  sizeByte := by kernel_rfl
  neB5 := by decide
theorem join_is : Go.Sh.Contract Tryz.prog 42 { params := [.val false (.slice 9 .str), .val false .str], res := [.val false .str] } (fun a => Go.Sh.N.joinS a.1 a.2) :=
  Go.Sh.ext_join (E := 9) ⟨Tryz.f42, Tryz.func42, by kernel_rfl, by kernel_rfl⟩ (fun a c sep w => Any.strings_Join_none Tryz.laysJoin joinX a c sep w)
    (fun bk o c xs sep w h1 h2 h3 h4 h5 => Any.strings_Join Tryz.laysJoin joinX bk o c xs sep w h1 h2 h3 h4 h5)
end Go.Proofs.YtfipolbgkppdjaaGreatDoor.Ex

namespace Go.Proofs.YtfipolbgkppdjaaGreatDoor.Ex
open Go Go.Proofs Go.RowKit Go.Shelf Go.Sort Go.Sh

set_option maxHeartbeats 2000000 in
set_option maxRecDepth 100000 in
theorem mig_nil (v : Value) (w : World) (P1 : Value → Value → World → Prop) (P2 : Value → Value → World → Nat → World → Prop) (P3 : Value → Nat → Option Addr → Nat → World → Prop)
    (h35 : Calls Tryz.prog 35 #[v] w fun ex w1 => ∃ v1 v2, ex = .returned (.tuple #[v1, v2]) ∧ P1 v1 v2 w1)
    (h17 : ∀ v1 v2 w1, P1 v1 v2 w1 → Calls Tryz.prog 17 #[v] w1 fun ex w2 => ∃ g, ex = .returned (.pointer (some ⟨g, 0, none⟩)) ∧ P2 v1 v2 w1 g w2)
    (h36 : ∀ v1 v2 w1 g w2, P2 v1 v2 w1 g w2 → Calls Tryz.prog 36 #[v2] w2 fun ex w3 => ∃ A3 c3, ex = .returned (.slice A3 0 c3) ∧ P3 v1 g A3 c3 w3) :
    Calls Tryz.prog 14 #[v] w fun ex w' => ∃ v1 g A3 c3, ex = .returned (.tuple #[v1, .slice A3 0 c3]) ∧ P3 v1 g A3 c3 w' := by
  go_enter Tryz.func14, Tryz.ntmps14
  go_wp2_with (first
    | (go_at_call 35; refine h35.mono ?_; rintro e w1 ⟨v1, v2, rfl, q1⟩)
    | (go_at_call 17; refine (h17 _ _ _ q1).mono ?_; rintro e w2 ⟨g, rfl, q2⟩)
    | (go_at_call 36; refine (h36 _ _ _ _ _ q2).mono ?_; rintro e w3 ⟨A3, c3, rfl, q3⟩))
  go_ret2
  exact ⟨_, _, _, _, rfl, q3⟩

set_option maxHeartbeats 2000000 in
set_option maxRecDepth 100000 in
theorem mig_other (v : Value) (w : World) (n : Nat) (n4 : Int) (hn0 : n4 ≠ 0) (hn1 : n4 ≠ 1) (P1 : Value → Value → World → Prop) (P2 : Value → Value → World → Nat → World → Prop) (P3 P4 : Value → Nat → Nat → Nat → World → Prop)
    (h35 : Calls Tryz.prog 35 #[v] w fun ex w1 => ∃ v1 v2, ex = .returned (.tuple #[v1, v2]) ∧ P1 v1 v2 w1)
    (h17 : ∀ v1 v2 w1, P1 v1 v2 w1 → Calls Tryz.prog 17 #[v] w1 fun ex w2 => ∃ g, ex = .returned (.pointer (some ⟨g, 0, none⟩)) ∧ P2 v1 v2 w1 g w2)
    (h36 : ∀ v1 v2 w1 g w2, P2 v1 v2 w1 g w2 → Calls Tryz.prog 36 #[v2] w2 fun ex w3 => ∃ g3 c, ex = .returned (.slice (some ⟨g3, 0, none⟩) (n + 1) c) ∧ P3 v1 g g3 c w3)
    (h37 : ∀ v1 g g3 c w3, P3 v1 g g3 c w3 → Calls Tryz.prog 37 #[.pointer (some ⟨g, 0, none⟩), .int .i64 8] w3 fun ex w4 => ex = .returned (.int .i64 n4) ∧ P4 v1 g g3 c w4) :
    Calls Tryz.prog 14 #[v] w fun ex w' => ∃ v1 g g3 c, ex = .returned (.tuple #[v1, .slice (some ⟨g3, 0, none⟩) (n + 1) c]) ∧ P4 v1 g g3 c w' := by
  have e0 : (n4 == 0) = false := by rw [beq_eq_false_iff_ne]; exact hn0
  have e1 : (n4 == 1) = false := by rw [beq_eq_false_iff_ne]; exact hn1
  have en : (0 : Int) < ((n + 1 : Nat) : Int) := by omega
  go_enter Tryz.func14, Tryz.ntmps14
  go_wp2_with (first
    | (go_at_call 35; refine h35.mono ?_; rintro e w1 ⟨v1, v2, rfl, q1⟩)
    | (go_at_call 17; refine (h17 _ _ _ q1).mono ?_; rintro e w2 ⟨g, rfl, q2⟩)
    | (go_at_call 36; refine (h36 _ _ _ _ _ q2).mono ?_; rintro e w3 ⟨g3, c, rfl, q3⟩)
    | (go_at_call 37; refine (h37 _ _ _ _ _ q3).mono ?_; rintro e w4 ⟨rfl, q4⟩))
  go_ret2
  exact ⟨_, _, _, _, rfl, q4⟩

set_option maxHeartbeats 2000000 in
set_option maxRecDepth 100000 in
theorem mig_set (v : Value) (w : World) (n : Nat) (n5 : Int) (P1 : Value → Value → World → Prop) (P2 : Value → Value → World → Nat → World → Prop) (P3 : Value → Nat → Nat → Nat → World → Prop) (P4 : Value → Nat → Nat → Nat → Nat → Nat → World → Prop) (P5 : Value → Nat → Nat → Nat → Nat → Nat → World → Prop)
    (h35 : Calls Tryz.prog 35 #[v] w fun ex w1 => ∃ v1 v2, ex = .returned (.tuple #[v1, v2]) ∧ P1 v1 v2 w1)
    (h17 : ∀ v1 v2 w1, P1 v1 v2 w1 → Calls Tryz.prog 17 #[v] w1 fun ex w2 => ∃ g, ex = .returned (.pointer (some ⟨g, 0, none⟩)) ∧ P2 v1 v2 w1 g w2)
    (h36 : ∀ v1 v2 w1 g w2, P2 v1 v2 w1 g w2 → Calls Tryz.prog 36 #[v2] w2 fun ex w3 => ∃ g3 c, ex = .returned (.slice (some ⟨g3, 0, none⟩) (n + 1) c) ∧ P3 v1 g g3 c w3)
    (h37 : ∀ v1 g g3 c w3, P3 v1 g g3 c w3 → Calls Tryz.prog 37 #[.pointer (some ⟨g, 0, none⟩), .int .i64 8] w3 fun ex w4 => ex = .returned (.int .i64 1) ∧ ∃ b0 c0, P4 v1 g g3 c b0 c0 w4 ∧ w4.cell? ⟨g3, 0, none⟩ = some (.slice (some ⟨b0, 0, none⟩) 2 c0) ∧ g3 < w4.heap.size)
    (h38 : ∀ v1 g g3 c b0 c0 w4, P4 v1 g g3 c b0 c0 w4 → Calls Tryz.prog 38 #[.pointer (some ⟨g, 0, none⟩), .slice (some ⟨w4.heap.size, 0, none⟩) 3 3] (w4.alloc (.cells #[.int .i64 (-1), .int .i64 999, .int .i64 1000] 3)).drew fun ex w5 => ex = .returned (.int .i64 n5) ∧ P5 v1 g g3 c b0 c0 w5 ∧ w5.cell? ⟨g3, 0, none⟩ = some (.slice (some ⟨b0, 0, none⟩) 2 c0) ∧ (∃ b, w5.cell? ⟨b0, 1, none⟩ = some (.int .i64 b)) ∧ w5.frozen? ⟨b0, 1, none⟩ = false) :
    Calls Tryz.prog 14 #[v] w fun ex w' => ∃ v1 g g3 c b0 c0 w5, ex = .returned (.tuple #[v1, .slice (some ⟨g3, 0, none⟩) (n + 1) c]) ∧ P5 v1 g g3 c b0 c0 w5 ∧ w' = w5.setCell ⟨b0, 1, none⟩ (.int .i64 n5) := by
  have en : (0 : Int) < ((n + 1 : Nat) : Int) := by omega
  go_enter Tryz.func14, Tryz.ntmps14
  go_wp2_with (first
    | (go_at_call 35; refine h35.mono ?_; rintro e w1 ⟨v1, v2, rfl, q1⟩)
    | (go_at_call 17; refine (h17 _ _ _ q1).mono ?_; rintro e w2 ⟨g, rfl, q2⟩)
    | (go_at_call 36; refine (h36 _ _ _ _ _ q2).mono ?_; rintro e w3 ⟨g3, c, rfl, q3⟩)
    | (go_at_call 37; refine (h37 _ _ _ _ _ q3).mono ?_; rintro e w4 ⟨rfl, b0, c0, q4, hc0, hlt⟩
       have hc1 : (w4.alloc (.cells #[.int .i64 (-1), .int .i64 999, .int .i64 1000] 3)).drew.cell? ⟨g3, 0, none⟩ = some (.slice (some ⟨b0, 0, none⟩) 2 c0) := (World.cell?_of_block (Below.heap_alloc w4 _ g3 hlt)).trans hc0
       have hc2 : w4.drew.cell? ⟨g3, 0, none⟩ = some (.slice (some ⟨b0, 0, none⟩) 2 c0) := hc0))
  go_region_with (go_at_call 38; refine (h38 _ _ _ _ _ _ _ q4).mono ?_; rintro e w5 ⟨rfl, q5, hc5, ⟨bb, hb5⟩, hf5⟩)
  all_goals go_wp2
  all_goals go_ret2
  all_goals exact ⟨_, _, _, _, _, _, _, rfl, q5, rfl⟩
end Go.Proofs.YtfipolbgkppdjaaGreatDoor.Ex

namespace Go.Proofs.YtfipolbgkppdjaaGreatDoor.Ex
open Go Go.Proofs Go.RowKit Go.Shelf Go.Sort Go.Sh

attribute [-go_sem] Builtin.append_
set_option maxHeartbeats 2000000 in
set_option maxRecDepth 100000 in
theorem mig_app (v : Value) (w : World) (n : Nat) (P1 : Value → Value → World → Prop) (P2 : Value → Value → World → Nat → World → Prop) (P3 : Value → Nat → Nat → Nat → World → Prop) (P5 : Value → Nat → Nat → Nat → Value → World → Prop)
    (h35 : Calls Tryz.prog 35 #[v] w fun ex w1 => ∃ v1 v2, ex = .returned (.tuple #[v1, v2]) ∧ P1 v1 v2 w1)
    (h17 : ∀ v1 v2 w1, P1 v1 v2 w1 → Calls Tryz.prog 17 #[v] w1 fun ex w2 => ∃ g, ex = .returned (.pointer (some ⟨g, 0, none⟩)) ∧ P2 v1 v2 w1 g w2)
    (h36 : ∀ v1 v2 w1 g w2, P2 v1 v2 w1 g w2 → Calls Tryz.prog 36 #[v2] w2 fun ex w3 => ∃ g3 c, ex = .returned (.slice (some ⟨g3, 0, none⟩) (n + 1) c) ∧ P3 v1 g g3 c w3)
    (h37 : ∀ v1 g g3 c w3, P3 v1 g g3 c w3 → Calls Tryz.prog 37 #[.pointer (some ⟨g, 0, none⟩), .int .i64 8] w3 fun ex w4 => ex = .returned (.int .i64 0) ∧ ∃ b0 c0, w4.cell? ⟨g3, 0, none⟩ = some (.slice (some ⟨b0, 0, none⟩) 2 c0) ∧ ∃ A' n' c' w5, (Builtin.append_ #[26, 26] 26 #[.slice (some ⟨b0, 0, none⟩) 2 c0, .slice (some ⟨w4.heap.size, 0, none⟩) 1 1]).run Tryz.prog (w4.alloc (.cells #[.int .i64 1] 3)) = .ok (.slice A' n' c') w5 ∧ P5 v1 g g3 c (.slice A' n' c') w5 ∧ w5.cell? ⟨g3, 0, none⟩ = some (.slice (some ⟨b0, 0, none⟩) 2 c0) ∧ w5.frozen? ⟨g3, 0, none⟩ = false) :
    Calls Tryz.prog 14 #[v] w fun ex w' => ∃ v1 g g3 c v' w5, ex = .returned (.tuple #[v1, .slice (some ⟨g3, 0, none⟩) (n + 1) c]) ∧ P5 v1 g g3 c v' w5 ∧ w' = w5.setCell ⟨g3, 0, none⟩ v' := by
  have en : (0 : Int) < ((n + 1 : Nat) : Int) := by omega
  go_enter Tryz.func14, Tryz.ntmps14
  go_wp2_with (first
    | (go_at_call 35; refine h35.mono ?_; rintro e w1 ⟨v1, v2, rfl, q1⟩)
    | (go_at_call 17; refine (h17 _ _ _ q1).mono ?_; rintro e w2 ⟨g, rfl, q2⟩)
    | (go_at_call 36; refine (h36 _ _ _ _ _ q2).mono ?_; rintro e w3 ⟨g3, c, rfl, q3⟩)
    | (go_at_call 37; refine (h37 _ _ _ _ _ q3).mono ?_; rintro e w4 ⟨rfl, b0, c0, hc0, A', n', c', w5, hrun, q5, hc5, hf5⟩))
  all_goals (try go_ret2)
  all_goals exact ⟨_, _, _, _, _, _, rfl, q5, rfl⟩
end Go.Proofs.YtfipolbgkppdjaaGreatDoor.Ex

namespace Go.Proofs.YtfipolbgkppdjaaGreatDoor.Ex
open Go Go.Proofs Go.RowKit Go.Shelf Go.Sort Go.Sh

section
variable {E0 E60 E73 : TypeId} {e0 e60 e73 t87 : Ty} {d1 d2 : Bool}
  {F35 : ({ params := [.val false (.slice E0 e0)], res := [.row E60 e60 d1, .row E73 e73 d2] } : Sig).args → Option ({ params := [.val false (.slice E0 e0)], res := [.row E60 e60 d1, .row E73 e73 d2] } : Sig).outs}
  {F17 : ({ params := [.val false (.slice E0 e0)], res := [.ptr t87] } : Sig).args → Option ({ params := [.val false (.slice E0 e0)], res := [.ptr t87] } : Sig).outs}
  {F36 : ({ params := [.val false (.slice E73 e73)], res := [.row 26 (.slice 3 IT) true] } : Sig).args → Option ({ params := [.val false (.slice E73 e73)], res := [.row 26 (.slice 3 IT) true] } : Sig).outs}
  {F37 : ({ params := [.ioptr t87, .val false IT], res := [.val false IT] } : Sig).args → Option ({ params := [.ioptr t87, .val false IT], res := [.val false IT] } : Sig).outs}
  {F38 : ({ params := [.ioptr t87, .val false (.slice 3 IT)], res := [.val false IT] } : Sig).args → Option ({ params := [.ioptr t87, .val false (.slice 3 IT)], res := [.val false IT] } : Sig).outs}

def A1 (S : Nat → Prop) (w : World) (ops : List e60.den) (ents : List e73.den) (E60 E73 : TypeId) (v1 v2 : Value) (w1 : World) : Prop := Below w.heap.size w w1 ∧ Rd w1 (NW S w w1) (.slice E60 e60) [v1] ops ∧ Rd w1 (NW S w w1) (.slice E73 e73) [v2] ents
def A2 (S : Nat → Prop) (w : World) (ops : List e60.den) (ents : List e73.den) (E60 E73 : TypeId) (c1 : t87.den) (v1 v2 : Value) (w1 : World) (g : Nat) (w2 : World) : Prop :=
  A1 S w ops ents E60 E73 v1 v2 w1 ∧ Below w1.heap.size w1 w2 ∧ w1.heap.size ≤ g ∧ ∃ S', BoxAt S' w2 t87 g c1 ∧ ∀ b, S' b → NW S w1 w2 b
def A3 (S : Nat → Prop) (w : World) (ops : List e60.den) (olds : List (List Int)) (E60 : TypeId) (c1 : t87.den) (v1 : Value) (g g3 c : Nat) (w3 : World) : Prop :=
  ∃ k s fs S', Mid S w k E60 ops olds v1 g g3 c s fs w3 ∧ BoxAt S' w3 t87 g c1 ∧ ∀ b, S' b → b < w3.heap.size

theorem to17 (c17 : Contract Tryz.prog 17 { params := [.val false (.slice E0 e0)], res := [.ptr t87] } F17) {a : List e0.den} {c1 : t87.den} (h17 : F17 a = some c1) {w : World} {S : Nat → Prop} (hS : ∀ b, S b → b < w.heap.size) (hl : Laid.ok w) {v : Value} (hv : Rd w S (.slice E0 e0) [v] a) {ops : List e60.den} {ents : List e73.den} :
    ∀ v1 v2 w1, A1 S w ops ents E60 E73 v1 v2 w1 → Calls Tryz.prog 17 #[v] w1 fun ex w2 => ∃ g, ex = .returned (.pointer (some ⟨g, 0, none⟩)) ∧ A2 S w ops ents E60 E73 c1 v1 v2 w1 g w2 := fun v1 v2 w1 q => by
  refine (use_ptr c17 h17 (S := S) (w := w1) (fun b hb => Nat.lt_of_lt_of_le (hS b hb) q.1.size) (laid_now hl q.1) (rd_below (w := w) hS q.1 hv fun _ h => h)).mono fun ex w2 he => ?_
  obtain ⟨g, S', e1, e2, e3, e4, e5⟩ := he
  exact ⟨g, e1, q, e2, e3, S', e4, e5⟩

theorem to36 (c36 : Contract Tryz.prog 36 { params := [.val false (.slice E73 e73)], res := [.row 26 (.slice 3 IT) true] } F36) {ents : List e73.den} {olds : List (List Int)} (h36 : F36 ents = some olds) {w : World} {S : Nat → Prop} (hS : ∀ b, S b → b < w.heap.size) (hl : Laid.ok w) {ops : List e60.den} {c1 : t87.den} :
    ∀ v1 v2 w1 g w2, A2 S w ops ents E60 E73 c1 v1 v2 w1 g w2 → Calls Tryz.prog 36 #[v2] w2 fun ex w3 => (olds = [] → ∃ A c3, ex = .returned (.slice A 0 c3) ∧ Below w.heap.size w w3 ∧ Rd w3 (NW S w w3) (.slice E60 e60) [v1] ops) ∧
      (olds ≠ [] → ∃ g3 c, ex = .returned (.slice (some ⟨g3, 0, none⟩) olds.length c) ∧ A3 S w ops olds E60 c1 v1 g g3 c w3) := fun v1 v2 w1 g w2 q => by
  obtain ⟨⟨b1, r1, r2⟩, b2, hg, S', hbox, hsub⟩ := q
  have hS1 : ∀ b, NW S w w1 b → b < w1.heap.size := NW.lt hS b1.size
  have hS2 : ∀ b, NW S w w1 b → b < w2.heap.size := fun b hb => Nat.lt_of_lt_of_le (hS1 b hb) b2.size
  have bel2 : Below w.heap.size w w2 := b1.trans (b2.mono b1.size)
  refine (use_deep c36 h36 (S := NW S w w1) (w := w2) hS2 (laid_now hl bel2) (rd_below (w := w) hS1 b2 r2 fun _ h => h)).mono fun ex w3 he => ?_
  obtain ⟨v3, foot, rfl, b3, hrow, hnd, hft, _⟩ := he
  have bel3 : Below w.heap.size w w3 := bel2.trans (b3.mono bel2.size)
  have rops : Rd w3 (NW S w w1) (.slice E60 e60) [v1] ops := rd_below (w := w) hS2 b3 (rd_below (w := w) hS1 b2 r1 fun _ h => h) fun _ h => h
  refine ⟨fun hx => ?_, fun hx => ?_⟩
  · rcases hrow with ⟨_, ⟨A, rfl⟩, _⟩ | ⟨g3, cap, cur, css, bss, h1, _⟩
    · exact ⟨A, 0, rfl, bel3, rops.mono (NW.mono (Nat.le_trans b2.size b3.size)) fun _ _ => rfl⟩
    · subst hx
      exact ⟨_, _, by rw [h1]; rfl, bel3, rops.mono (NW.mono (Nat.le_trans b2.size b3.size)) fun _ _ => rfl⟩
  · obtain ⟨g3, c, s, fs, rfl, m1, m2, hd⟩ := deep_of (E := 26) hrow hnd hx
    have hb2 := b2.size
    have hb3 := b3.size
    have hgl := hbox.2.1
    refine ⟨g3, c, rfl, w1.heap.size, s, fs, S', ⟨bel3, b1.size, rops, Nat.le_trans hb2 hb3, hd, ?_, fun i hi b hb => ?_, hg, ?_, fun i hi b hb => ?_⟩, ?_, fun b hb => ?_⟩
    · have := (hft g3 m1).1; omega
    · have := hft b (m2 i hi b hb); omega
    · have := (hft g3 m1).1; omega
    · have := hft b (m2 i hi b hb); omega
    · obtain ⟨n1, n2, cur, T, n3, n4⟩ := hbox
      have hlt2 : ∀ b, S' b → b < w2.heap.size := NW.lt (fun b hb => Nat.lt_of_lt_of_le (hS b hb) b1.size) b2.size |> fun h b hb => h b (hsub b hb)
      exact ⟨n1, by omega, cur, T, (b3.block g n2).trans n3, rd_below (w := w) hlt2 b3 n4 fun _ h => h⟩
    · have hlt2 := NW.lt (fun b hb => Nat.lt_of_lt_of_le (hS b hb) b1.size) b2.size b (hsub b hb)
      omega

theorem blk_ne {S : Nat → Prop} {w : World} (hl : Laid.ok w) {k g : Nat} (h0 : w.heap.size ≤ k) (hg : k ≤ g) : ∀ b, Laid.blk b → b ≠ g := fun b hb => by
  have := Laid.lt _ _ hl hb
  omega
theorem to37 (c37 : Contract Tryz.prog 37 { params := [.ioptr t87, .val false IT], res := [.val false IT] } F37) {c1 c2 : t87.den} {n4 : Int} (h37 : F37 (c1, (8 : Int)) = some (n4, c2)) {w : World} {S : Nat → Prop} (hS : ∀ b, S b → b < w.heap.size) (hl : Laid.ok w) {ops : List e60.den} {olds : List (List Int)} :
    ∀ v1 g g3 c w3, A3 S w ops olds E60 c1 v1 g g3 c w3 → Calls Tryz.prog 37 #[.pointer (some ⟨g, 0, none⟩), .int .i64 8] w3 fun ex w4 => ex = .returned (.int .i64 n4) ∧ A3 S w ops olds E60 c2 v1 g g3 c w4 := fun v1 g g3 c w3 q => by
  obtain ⟨k, s, fs, S', hm, hbox, hlt⟩ := q
  refine (use_io c37 h37 hlt (laid_now hl hm.bel) hbox (blk_ne (S := S) hl hm.k0 hm.gk) (v2 := .int .i64 8) (by show VR (cx0 S') w3 (.lf (.int .i64 8)) (.int .i64 8); rfl) ⟨_, rfl⟩).mono fun ex w4 he => ?_
  obtain ⟨S4, e1, e2, e3, e4, e5, e6, e7, e8⟩ := he
  exact ⟨e1, k, s, fs, S4, hm.step hS e2 e3 e4 e5 e6, e7, fun b hb => NW.lt hlt e5 b (e8 b hb)⟩
end
end Go.Proofs.YtfipolbgkppdjaaGreatDoor.Ex

namespace Go.Proofs.YtfipolbgkppdjaaGreatDoor.Ex
open Go Go.Proofs Go.RowKit Go.Shelf Go.Sort Go.Sh

def nmig {A B C D X Y : Type} (f35 : A → Option (B × C)) (f17 : A → Option D) (f36 : C → Option (List (List Int))) (f37 : D × Int → Option (Int × D)) (f38 : D × List Int → Option (Int × D)) (a : A) : Option (B × List (List Int)) :=
  N.bind (f35 a) fun r1 => N.bind (f17 a) fun r2 => N.bind (f36 r1.2) fun r3 =>
    N.cond (N.pairsB r3)
      (N.cond (N.gt (N.len r3) 0)
        (N.bind (f37 (r2, 8)) fun r4 =>
          N.cond (N.eq r4.1 0)
            (some (r1.1, N.oldApp r3))
            (N.cond (N.eq r4.1 1)
              (N.bind (f38 (r4.2, [(-1), 999, 1000])) fun r5 => some (r1.1, N.oldSet r3 r5.1))
              (some (r1.1, r3))))
        (some (r1.1, r3)))
      none

theorem pairs_first {xs : List (List Int)} (h : N.pairsB xs = true) (h0 : 0 < xs.length) : ∃ a b, xs[0] = [a, b] := by
  unfold N.pairsB at h
  rw [List.all_eq_true] at h
  have := h xs[0] (List.getElem_mem h0)
  rw [decide_eq_true_eq] at this
  match hx : xs[0], this with
  | [a, b], _ => exact ⟨a, b, rfl⟩

theorem drawMigrate_is {E0 E60 E73 : TypeId} {e0 e60 e73 t87 : Ty} {d1 d2 : Bool}
  {F35 : ({ params := [.val false (.slice E0 e0)], res := [.row E60 e60 d1, .row E73 e73 d2] } : Sig).args → Option ({ params := [.val false (.slice E0 e0)], res := [.row E60 e60 d1, .row E73 e73 d2] } : Sig).outs}
  {F17 : ({ params := [.val false (.slice E0 e0)], res := [.ptr t87] } : Sig).args → Option ({ params := [.val false (.slice E0 e0)], res := [.ptr t87] } : Sig).outs}
  {F36 : ({ params := [.val false (.slice E73 e73)], res := [.row 26 (.slice 3 IT) true] } : Sig).args → Option ({ params := [.val false (.slice E73 e73)], res := [.row 26 (.slice 3 IT) true] } : Sig).outs}
  {F37 : ({ params := [.ioptr t87, .val false IT], res := [.val false IT] } : Sig).args → Option ({ params := [.ioptr t87, .val false IT], res := [.val false IT] } : Sig).outs}
  {F38 : ({ params := [.ioptr t87, .val false (.slice 3 IT)], res := [.val false IT] } : Sig).args → Option ({ params := [.ioptr t87, .val false (.slice 3 IT)], res := [.val false IT] } : Sig).outs}
  (c35 : Contract Tryz.prog 35 { params := [.val false (.slice E0 e0)], res := [.row E60 e60 d1, .row E73 e73 d2] } F35)
  (c17 : Contract Tryz.prog 17 { params := [.val false (.slice E0 e0)], res := [.ptr t87] } F17)
  (c36 : Contract Tryz.prog 36 { params := [.val false (.slice E73 e73)], res := [.row 26 (.slice 3 IT) true] } F36)
  (c37 : Contract Tryz.prog 37 { params := [.ioptr t87, .val false IT], res := [.val false IT] } F37)
  (c38 : Contract Tryz.prog 38 { params := [.ioptr t87, .val false (.slice 3 IT)], res := [.val false IT] } F38) :
  Contract Tryz.prog 14 { params := [.val false (.slice E0 e0)], res := [.val false (.slice E60 e60), .val false (.slice 26 (.slice 3 IT))] }
    (fun a => N.bind (F35 a) fun r1 => N.bind (F17 a) fun r2 => N.bind (F36 (show List e60.den × List e73.den from r1).2) fun r3 =>
      N.cond (N.pairsB r3)
        (N.cond (N.gt (N.len (show List (List Int) from r3)) 0)
          (N.bind (F37 (r2, (8 : Int))) fun r4 =>
            N.cond (N.eq (show Int × t87.den from r4).1 0)
              (some ((show List e60.den × List e73.den from r1).1, N.oldApp r3))
              (N.cond (N.eq (show Int × t87.den from r4).1 1)
                (N.bind (F38 ((show Int × t87.den from r4).2, ([(-1), 999, 1000] : List Int))) fun r5 => some ((show List e60.den × List e73.den from r1).1, N.oldSet r3 (show Int × t87.den from r5).1))
                (some ((show List e60.den × List e73.den from r1).1, r3))))
          (some ((show List e60.den × List e73.den from r1).1, r3)))
        none) := by
  refine ext_vals2 (E := E0) (e := e0) (E1 := E60) (e1 := e60) (E2 := 26) (e2 := .slice 3 IT) ⟨Tryz.f14, Tryz.func14, by kernel_rfl, by kernel_rfl⟩ fun a o w S v hF hS hl hv => ?_
  cases h35 : F35 a with
  | none => rw [h35] at hF; cases hF
  | some r1 =>
  obtain ⟨ops, ents⟩ := r1
  cases h17 : F17 a with
  | none => rw [h35, h17] at hF; cases hF
  | some c1 =>
  cases h36 : F36 ents with
  | none => rw [h35, h17] at hF; change N.bind (F36 ents) _ = _ at hF; rw [h36] at hF; cases hF
  | some olds =>
  rw [h35, h17] at hF
  change N.bind (F36 ents) _ = _ at hF
  rw [h36] at hF
  change N.cond (N.pairsB olds) (N.cond (N.gt (N.len (show List (List Int) from olds)) 0)
      (N.bind (F37 (c1, (8 : Int))) fun r4 =>
        N.cond (N.eq (show Int × t87.den from r4).1 0) (some (ops, N.oldApp olds))
          (N.cond (N.eq (show Int × t87.den from r4).1 1)
            (N.bind (F38 ((show Int × t87.den from r4).2, ([(-1), 999, 1000] : List Int))) fun r5 => some (ops, N.oldSet olds (show Int × t87.den from r5).1))
            (some (ops, olds))))
      (some (ops, olds))) none = some o at hF
  cases hp : N.pairsB olds with
  | false => rw [hp] at hF; cases hF
  | true =>
  rw [hp] at hF
  change N.cond (N.gt (N.len (show List (List Int) from olds)) 0) _ _ = some o at hF
  have s35 : Calls Tryz.prog 35 #[v] w fun ex w1 => ∃ v1 v2, ex = .returned (.tuple #[v1, v2]) ∧ A1 S w ops ents E60 E73 v1 v2 w1 := (use_rows2 c35 h35 hS hl hv).mono fun ex w1 he => by
    obtain ⟨v1, v2, q1, q2, q3, q4⟩ := he
    exact ⟨v1, v2, q1, q2, q3, q4⟩
  have s17 := to17 (E60 := E60) (E73 := E73) c17 h17 hS hl hv (ops := ops) (ents := ents)
  have s36 := to36 (E60 := E60) c36 h36 hS hl (ops := ops) (c1 := c1)
  by_cases hx : (show List (List Int) from olds) = []
  · have hg : N.gt (N.len (show List (List Int) from olds)) 0 = false := by rw [hx]; rfl
    rw [hg] at hF
    have ho : o = (ops, olds) := (Option.some.inj hF).symm
    subst ho
    refine (mig_nil v w _ _ (fun v1 g A c3 w3 => Below w.heap.size w w3 ∧ Rd w3 (NW S w w3) (.slice E60 e60) [v1] ops) s35 s17 fun v1 v2 w1 g w2 q => (s36 v1 v2 w1 g w2 q).mono fun ex w3 he => ?_).mono fun ex w' he => ?_
    · obtain ⟨A, c3, q1, q2, q3⟩ := he.1 hx
      exact ⟨A, c3, q1, q2, q3⟩
    · obtain ⟨v1, g, A, c3, q1, q2, q3⟩ := he
      refine ⟨v1, _, q1, q2, q3, ?_⟩
      show Rd w' _ (.slice 26 (.slice 3 IT)) _ (show List (List Int) from olds)
      rw [hx]
      exact ⟨A, c3, rfl, Nat.zero_le _, fun i hi => absurd hi (Nat.not_lt_zero i)⟩
  · have hpos : 0 < (show List (List Int) from olds).length := List.length_pos_iff.2 hx
    obtain ⟨n, hn⟩ : ∃ n, (show List (List Int) from olds).length = n + 1 := ⟨(show List (List Int) from olds).length - 1, by omega⟩
    have hg : N.gt (N.len (show List (List Int) from olds)) 0 = true := by
      unfold N.gt N.len
      exact decide_eq_true (by omega)
    rw [hg] at hF
    change N.bind (F37 (c1, (8 : Int))) _ = some o at hF
    cases h37 : F37 (c1, (8 : Int)) with
    | none => rw [h37] at hF; cases hF
    | some r4 =>
    obtain ⟨n4, c2⟩ := r4
    rw [h37] at hF
    change N.cond (N.eq n4 0) (some (ops, N.oldApp olds)) (N.cond (N.eq n4 1) (N.bind (F38 (c2, ([(-1), 999, 1000] : List Int))) fun r5 => some (ops, N.oldSet olds (show Int × t87.den from r5).1)) (some (ops, olds))) = some o at hF
    have s37 := to37 (E60 := E60) c37 h37 hS hl (ops := ops) (olds := olds)
    obtain ⟨a0, b0', hab⟩ := pairs_first hp hpos
    have s36' : ∀ v1 v2 w1 g w2, A2 S w ops ents E60 E73 c1 v1 v2 w1 g w2 → Calls Tryz.prog 36 #[v2] w2 fun ex w3 => ∃ g3 c, ex = .returned (.slice (some ⟨g3, 0, none⟩) (n + 1) c) ∧ A3 S w ops olds E60 c1 v1 g g3 c w3 := fun v1 v2 w1 g w2 q => (s36 v1 v2 w1 g w2 q).mono fun ex w3 he => by
      obtain ⟨g3, c, q1, q2⟩ := he.2 hx
      exact ⟨g3, c, by rw [q1]; show _ = Ending.returned (.slice _ (n + 1) c); rw [← hn], q2⟩
    by_cases hz : n4 = 0
    · subst hz
      have ho : o = (ops, N.oldApp olds) := (Option.some.inj hF).symm
      subst ho
      refine (mig_app v w n _ _ _ (fun v1 g g3 c v' w5 => Below w.heap.size w (w5.setCell ⟨g3, 0, none⟩ v') ∧ Rd (w5.setCell ⟨g3, 0, none⟩ v') (NW S w (w5.setCell ⟨g3, 0, none⟩ v')) (.slice E60 e60) [v1] ops ∧ Rd (w5.setCell ⟨g3, 0, none⟩ v') (NW S w (w5.setCell ⟨g3, 0, none⟩ v')) (.slice 26 (.slice 3 IT)) [.slice (some ⟨g3, 0, none⟩) (n + 1) c] (N.oldApp olds)) s35 s17 s36' fun v1 g g3 c w3 q => (s37 v1 g g3 c w3 q).mono fun ex w4 he => ?_).mono fun ex w' he => ?_
      · obtain ⟨q1, k, s, fs, S', hm, _⟩ := he
        obtain ⟨b0, c0, cur, p1, p2, p3, p4, p5, p6, p7⟩ := hm.deep.first hpos hab
        have hinfo : (Tryz.prog.info? 3).map (fun i => (i.zero, i.size, i.bytes)) = some (some (.int .i64 0), 1, 8) := by kernel_rfl
        obtain ⟨i0, hi, hz0, hz1, hz2⟩ := info_parts hinfo
        have hb0 := hm.fsk 0 hpos b0 (by rw [p2]; simp)
        have hown : w4.ownsRow k 3 1 (.slice (some ⟨b0, 0, none⟩) 2 c0) 2 [.int .i64 a0, .int .i64 b0'] := ⟨rfl, .inr ⟨b0, c0, cur, rfl, hb0.1, p3, p4, p5, by rw [p6, Nat.mul_one], p7⟩⟩
        have hnew : (w4.alloc (.cells #[.int .i64 1] 3)).cell? ⟨w4.heap.size, 0, none⟩ = some (.int .i64 1) := by
          rw [World.cell?_alloc_at _ _ _ _ rfl]; rfl
        have hnews : ∀ j u, [Value.int .i64 1][j]? = some u → (w4.alloc (.cells #[.int .i64 1] 3)).cell? ((⟨w4.heap.size, 0, none⟩ : Addr).add j) = some u := by
          intro j u hj
          match j, hj with
          | 0, hj => simp at hj; subst hj; exact hnew
        have h1' : ∀ u ∈ [Value.int .i64 1], u.oneCell' = true := by intro u hu; simp at hu; subst hu; rfl
        have hkl := hm.kl
        obtain ⟨out', w5, hr, hown', hgrow, _⟩ := run_append_own (P := Tryz.prog) (w4.alloc (.cells #[.int .i64 1] 3)) k 26 26 3 i0 (.int .i64 0) 1 8 Tryz.underlying26 hi hz0 hz1 hz2 rfl (by decide) (.slice (some ⟨b0, 0, none⟩) 2 c0) 2 [.int .i64 a0, .int .i64 b0'] (hown.alloc _) ⟨w4.heap.size, 0, none⟩ 1 1 [.int .i64 1] rfl hnews h1' (by simp only [maxLen]; omega) (by omega) (by simp; omega)
        have hgr : w4.grownBy w5 (some b0) := ⟨hgrow.os, hgrow.tape, hgrow.output, Nat.le_trans (by simp) hgrow.size, fun i hi hne => (hgrow.block i (by simp; omega) hne).trans (Below.heap_alloc w4 _ i hi)⟩
        obtain ⟨r1, r2, ⟨A', n', c', r3⟩, r4, r5, r6⟩ := hm.app hS hpos hab p1 hgr hown' (E := 26)
        subst r3
        refine ⟨q1, b0, c0, (hm.deep.cell 0 hpos).trans (by rw [p1]), A', n', c', w5, hr, ⟨r4, r5, ?_⟩, r1, r2⟩
        rw [show (show List (List Int) from olds).length = n + 1 from hn] at r6
        exact r6
      · obtain ⟨v1, g, g3, c, v', w5, q1, ⟨q2, q3, q4⟩, rfl⟩ := he
        exact ⟨v1, _, q1, q2, q3, q4⟩
    by_cases h1 : n4 = 1
    · subst h1
      change N.bind (F38 (c2, ([(-1), 999, 1000] : List Int))) _ = some o at hF
      cases h38 : F38 (c2, ([(-1), 999, 1000] : List Int)) with
      | none => rw [h38] at hF; cases hF
      | some r5 =>
      obtain ⟨n5, c3⟩ := r5
      rw [h38] at hF
      have ho : o = (ops, N.oldSet olds n5) := (Option.some.inj hF).symm
      subst ho
      refine (mig_set v w n n5 _ _ _ (fun v1 g g3 c b0 c0 w4 => ∃ k s fs S', Mid S w k E60 ops olds v1 g g3 c s fs w4 ∧ BoxAt S' w4 t87 g c2 ∧ (∀ b, S' b → b < w4.heap.size) ∧ s 0 = .slice (some ⟨b0, 0, none⟩) 2 c0)
        (fun v1 g g3 c b0 c0 w5 => ∃ k s fs, Mid S w k E60 ops olds v1 g g3 c s fs w5 ∧ s 0 = .slice (some ⟨b0, 0, none⟩) 2 c0) s35 s17 s36' (fun v1 g g3 c w3 q => (s37 v1 g g3 c w3 q).mono fun ex w4 he => ?_) fun v1 g g3 c b0 c0 w4 q => ?_).mono fun ex w' he => ?_
      · obtain ⟨q1, k, s, fs, S', hm, hbox, hlt⟩ := he
        obtain ⟨b0, c0, cur, p1, p2, p3, p4, p5, p6, p7⟩ := hm.deep.first hpos hab
        exact ⟨q1, b0, c0, ⟨k, s, fs, S', hm, hbox, hlt, p1⟩, (hm.deep.cell 0 hpos).trans (by rw [p1]), hm.deep.gl⟩
      · obtain ⟨k, s, fs, S', hm, ⟨n1, n2, cu, T, n3, n4⟩, hlt, p1⟩ := q
        have hsz : (w4.alloc (.cells #[.int .i64 (-1), .int .i64 999, .int .i64 1000] 3)).drew.heap.size = w4.heap.size + 1 := by simp
        have hold : ∀ b, b < w4.heap.size → Same w4 (w4.alloc (.cells #[.int .i64 (-1), .int .i64 999, .int .i64 1000] 3)).drew b := fun b hb => Below.heap_alloc w4 _ b hb
        have hm1 := hm.step hS (w5 := (w4.alloc (.cells #[.int .i64 (-1), .int .i64 999, .int .i64 1000] 3)).drew) rfl rfl rfl (by omega) fun b hb _ => hold b hb
        have hat : ∀ j, (w4.alloc (.cells #[.int .i64 (-1), .int .i64 999, .int .i64 1000] 3)).drew.cell? ⟨w4.heap.size, j, none⟩ = (#[Value.int .i64 (-1), .int .i64 999, .int .i64 1000])[j]? := fun j => by
          show (w4.alloc (.cells #[.int .i64 (-1), .int .i64 999, .int .i64 1000] 3)).cell? ⟨w4.heap.size, j, none⟩ = _
          rw [World.cell?_alloc_at _ _ _ _ rfl]
        have hbox1 : BoxAt (fun b => S' b ∨ b = w4.heap.size) (w4.alloc (.cells #[.int .i64 (-1), .int .i64 999, .int .i64 1000] 3)).drew t87 g c2 :=
          ⟨fun h => h.elim n1 fun h => by omega, by omega, cu, T, (hold g n2).trans n3, n4.mono (fun b hb => .inl hb) fun b hb => hold b (hlt b hb)⟩
        have hS2 : ∀ b, (S' b ∨ b = w4.heap.size) → b < (w4.alloc (.cells #[.int .i64 (-1), .int .i64 999, .int .i64 1000] 3)).drew.heap.size := fun b hb => by
          rcases hb with hb | hb
          · have := hlt b hb; omega
          · omega
        refine (use_io c38 h38 (S := fun b => S' b ∨ b = w4.heap.size) hS2 (laid_now hl hm1.bel) hbox1 (blk_ne (S := S) hl hm.k0 hm.gk) (v2 := .slice (some ⟨w4.heap.size, 0, none⟩) 3 3) ?_ ⟨_, rfl⟩).mono fun ex w5 he => ?_
        · show Rd _ (fun b => S' b ∨ b = w4.heap.size) (.slice 3 IT) [.slice (some ⟨w4.heap.size, 0, none⟩) ([(-1), 999, 1000] : List Int).length 3] [(-1), 999, 1000]
          refine ints_rd (.inr rfl) (by decide) fun i hi => ?_
          rw [hat]
          match i, hi with
          | 0, _ => rfl
          | 1, _ => rfl
          | 2, _ => rfl
          | i + 3, hi => simp at hi; omega
        · obtain ⟨S5, z1, z2, z3, z4, z5, z6, _, _⟩ := he
          have hm5 := hm1.step hS z2 z3 z4 z5 z6
          obtain ⟨b1, c1', cur, y1, y2, y3, y4, y5, y6, y7⟩ := hm5.deep.first hpos hab
          rw [p1] at y1
          simp only [Value.slice.injEq, Option.some.injEq, Addr.mk.injEq, and_true, true_and] at y1
          obtain ⟨rfl, rfl⟩ := y1
          exact ⟨z1, ⟨k, s, fs, hm5, p1⟩, (hm5.deep.cell 0 hpos).trans (by rw [p1]), ⟨_, (two_cells y3 y7).2⟩, frozen_zero y3 1⟩
      · obtain ⟨v1, g, g3, c, b0, c0, w5, q1, ⟨k, s, fs, hm, p1⟩, rfl⟩ := he
        obtain ⟨t1, t2, t3⟩ := hm.set hS hpos hab p1 (n := n5) (E := 26)
        refine ⟨v1, _, q1, t1, t2, ?_⟩
        rw [show (show List (List Int) from olds).length = n + 1 from hn] at t3
        exact t3
    have e0 : N.eq n4 0 = false := by unfold N.eq; rw [beq_eq_false_iff_ne]; exact hz
    have e1 : N.eq n4 1 = false := by unfold N.eq; rw [beq_eq_false_iff_ne]; exact h1
    rw [e0, e1] at hF
    have ho : o = (ops, olds) := (Option.some.inj hF).symm
    subst ho
    refine (mig_other v w n n4 hz h1 _ _ _ _ s35 s17 s36' s37).mono fun ex w' he => ?_
    obtain ⟨v1, g, g3, c, q1, k, s, fs, S', hm, _⟩ := he
    exact ⟨v1, _, q1, hm.bel, hm.rd2, by have := hm.rd3 (E := 26); rw [show (show List (List Int) from olds).length = n + 1 from hn] at this; exact this⟩
end Go.Proofs.YtfipolbgkppdjaaGreatDoor.Ex

