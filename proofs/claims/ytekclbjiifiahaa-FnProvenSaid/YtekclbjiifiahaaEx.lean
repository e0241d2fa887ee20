/- Functions of the library and of the program that the evaluator does not take: their contracts out of the shelf. -/
import Derived.Test.YtekclbjiifiahaaSh9
import Derived.Shelf.Slices.Clone
import Derived.Shelf.Slices.CompactI
import Derived.Shelf.Slices.Empties
import Derived.Shelf.Sort.Plain
import Derived.Shelf.SlicesE.DeleteFunc
import Derived.Ground.SlgfProg
import Derived.Ground.NamesProg
import Derived.Ground.Names2Prog
import Derived.Test.YtekclbjiifiahaaProg
import Derived.WalkKit
import Derived.Deep.LoopGhost
import Derived.Sort.OwnSortedInts
import Derived.Sort.Grow
import Derived.Lib.OwnBridge
import Derived.Below
import Derived.Sort.Row
import Derived.Shelf.Slices.In.SortNone
import Derived.Lib.SliceRun
set_option linter.unusedVariables false
namespace Go.Proofs
open Go.Shelf
def Try.laysClone_ren : Go.Shelf.Ren := ⟨fun | 15 => 76 | n => n, fun | 22 => 22 | 3 => 3 | 4 => 4 | n => n, fun | n => n⟩
theorem Try.laysClone : Go.Proofs.Lays2.n15 Try.prog Try.laysClone_ren := {
  mixed := by kernel_rfl
  f15 := Try.func76.trans (congrArg some (by kernel_rfl))
  t3 := Try.underlying3
  a3 := Try.isAgg3
  z3 := Try.sizeOf3
  v3 := Try.zeroValue3
  t4 := Try.underlying4
  a4 := Try.isAgg4
  z4 := Try.sizeOf4
  v4 := Try.zeroValue4
  t22 := Try.underlying22
  a22 := Try.isAgg22
  z22 := Try.sizeOf22
  v22 := Try.zeroValue22
  i3 := by kernel_rfl }
def Try.laysCompact_ren : Go.Shelf.Ren := ⟨fun | 20 => 77 | n => n, fun | 22 => 22 | 3 => 3 | 4 => 4 | 0 => 0 | n => n, fun | n => n⟩
theorem Try.laysCompact : Go.Proofs.Lays2.n20 Try.prog Try.laysCompact_ren := {
  mixed := by kernel_rfl
  f20 := Try.func77.trans (congrArg some (by kernel_rfl))
  t0 := Try.underlying0
  a0 := Try.isAgg0
  z0 := Try.sizeOf0
  v0 := Try.zeroValue0
  t3 := Try.underlying3
  a3 := Try.isAgg3
  z3 := Try.sizeOf3
  v3 := Try.zeroValue3
  t4 := Try.underlying4
  a4 := Try.isAgg4
  z4 := Try.sizeOf4
  v4 := Try.zeroValue4
  t22 := Try.underlying22
  a22 := Try.isAgg22
  z22 := Try.sizeOf22
  v22 := Try.zeroValue22
  i3 := by kernel_rfl }
def Try.laysSort_ren : Go.Shelf.Ren := ⟨fun | 189 => 40 | 125 => 70 | 257 => 69 | 128 => 92 | 129 => 93 | 294 => 83 | 295 => 84 | 296 => 85 | 297 => 86 | 298 => 87 | 299 => 88 | 216 => 89 | 300 => 90 | 301 => 91 | 328 => 101 | 329 => 102 | 330 => 103 | 331 => 104 | 332 => 105 | 215 => 79 | 343 => 107 | n => n, fun | 28 => 22 | 3 => 3 | 46 => 77 | 0 => 0 | 51 => 93 | 53 => 95 | 4 => 4 | 183 => 88 | 182 => 87 | 131 => 90 | 5 => 5 | 9 => 9 | 218 => 102 | 222 => 106 | 228 => 108 | 229 => 109 | n => n, fun | n => n⟩
theorem Try.laysSort : Go.Proofs.Lays.n189 Try.prog Try.laysSort_ren := {
  mixed := by kernel_rfl
  f125 := Try.func70.trans (congrArg some (by kernel_rfl))
  f128 := Try.func92.trans (congrArg some (by kernel_rfl))
  f129 := Try.func93.trans (congrArg some (by kernel_rfl))
  f189 := Try.func40.trans (congrArg some (by kernel_rfl))
  f215 := Try.func79.trans (congrArg some (by kernel_rfl))
  f216 := Try.func89.trans (congrArg some (by kernel_rfl))
  f257 := Try.func69.trans (congrArg some (by kernel_rfl))
  f294 := Try.func83.trans (congrArg some (by kernel_rfl))
  f295 := Try.func84.trans (congrArg some (by kernel_rfl))
  f296 := Try.func85.trans (congrArg some (by kernel_rfl))
  f297 := Try.func86.trans (congrArg some (by kernel_rfl))
  f298 := Try.func87.trans (congrArg some (by kernel_rfl))
  f299 := Try.func88.trans (congrArg some (by kernel_rfl))
  f300 := Try.func90.trans (congrArg some (by kernel_rfl))
  f301 := Try.func91.trans (congrArg some (by kernel_rfl))
  f328 := Try.func101.trans (congrArg some (by kernel_rfl))
  f329 := Try.func102.trans (congrArg some (by kernel_rfl))
  f330 := Try.func103.trans (congrArg some (by kernel_rfl))
  f331 := Try.func104.trans (congrArg some (by kernel_rfl))
  f332 := Try.func105.trans (congrArg some (by kernel_rfl))
  f343 := Try.func107.trans (congrArg some (by kernel_rfl))
  t0 := Try.underlying0
  a0 := Try.isAgg0
  z0 := Try.sizeOf0
  v0 := Try.zeroValue0
  t3 := Try.underlying3
  a3 := Try.isAgg3
  z3 := Try.sizeOf3
  v3 := Try.zeroValue3
  t4 := Try.underlying4
  a4 := Try.isAgg4
  z4 := Try.sizeOf4
  v4 := Try.zeroValue4
  t5 := Try.underlying5
  a5 := Try.isAgg5
  z5 := Try.sizeOf5
  v5 := Try.zeroValue5
  t9 := Try.underlying9
  a9 := Try.isAgg9
  z9 := Try.sizeOf9
  v9 := Try.zeroValue9
  t28 := Try.underlying22
  a28 := Try.isAgg22
  z28 := Try.sizeOf22
  v28 := Try.zeroValue22
  t46 := Try.underlying77
  a46 := Try.isAgg77
  z46 := Try.sizeOf77
  v46 := Try.zeroValue77
  t51 := Try.underlying93
  a51 := Try.isAgg93
  z51 := Try.sizeOf93
  v51 := Try.zeroValue93
  t53 := Try.underlying95
  a53 := Try.isAgg95
  z53 := Try.sizeOf95
  v53 := Try.zeroValue95
  t131 := Try.underlying90
  a131 := Try.isAgg90
  z131 := Try.sizeOf90
  v131 := Try.zeroValue90
  t182 := Try.underlying87
  a182 := Try.isAgg87
  z182 := Try.sizeOf87
  v182 := Try.zeroValue87
  t183 := Try.underlying88
  a183 := Try.isAgg88
  z183 := Try.sizeOf88
  v183 := Try.zeroValue88
  t218 := Try.underlying102
  a218 := Try.isAgg102
  z218 := Try.sizeOf102
  v218 := Try.zeroValue102
  t222 := Try.underlying106
  a222 := Try.isAgg106
  z222 := Try.sizeOf106
  v222 := Try.zeroValue106
  t228 := Try.underlying108
  a228 := Try.isAgg108
  z228 := Try.sizeOf108
  v228 := Try.zeroValue108
  t229 := Try.underlying109
  a229 := Try.isAgg109
  z229 := Try.sizeOf109
  v229 := Try.zeroValue109 }
def Try.laysDelete_ren : Go.Shelf.Ren := ⟨fun | 10 => 38 | 6 => 68 | n => n, fun | 22 => 22 | 23 => 3 | 25 => 42 | 3 => 3 | 4 => 4 | 0 => 0 | n => n, fun | n => n⟩
theorem Try.laysDelete : Go.Proofs.SlLaysH.n10 Try.prog Try.laysDelete_ren := {
  mixed := by kernel_rfl
  f6 := ⟨Try.f68.name, by decide, Try.func68.trans (congrArg some (by kernel_rfl))⟩
  f10 := ⟨Try.f38.name, by decide, Try.func38.trans (congrArg some (by kernel_rfl))⟩
  t0 := Try.underlying0
  a0 := Try.isAgg0
  z0 := Try.sizeOf0
  v0 := Try.zeroValue0
  t3 := Try.underlying3
  a3 := Try.isAgg3
  z3 := Try.sizeOf3
  v3 := Try.zeroValue3
  t4 := Try.underlying4
  a4 := Try.isAgg4
  z4 := Try.sizeOf4
  v4 := Try.zeroValue4
  t22 := Try.underlying22
  a22 := Try.isAgg22
  z22 := Try.sizeOf22
  v22 := Try.zeroValue22
  a23 := Try.isAgg3
  z23 := Try.sizeOf3
  t25 := Try.underlying42
  a25 := Try.isAgg42
  z25 := Try.sizeOf42
  v25 := Try.zeroValue42 }
end Go.Proofs

namespace Go.Proofs.Ytekclbjiifiahaa.Ex
open Go Go.Proofs Go.RowKit Go.Shelf Go.Sort

def Left (w : World) (ss : List Int) (e : Ending) (w' : World) : Prop :=
  ∃ v, e = .returned v ∧ w'.ownsRow w.heap.size 3 1 v (Go.Sh.N.uniq ss).length ((Go.Sh.N.uniq ss).map (Value.int .i64)) ∧ Below w.heap.size w w'
theorem left_of {w w1 : World} {g cap n nn q : Nat} {os : Array Obj} {ss : List Int} (hown : w1.ownsRow w.heap.size 3 1 (.slice (some ⟨g, 0, none⟩) n cap) n (ss.map (Value.int .i64))) (hbel : Below w.heap.size w w1) (hbg : w.heap.size ≤ g) (hlen : ss.length = n) :
    Left w ss (.returned (.slice (some ⟨g, 0, none⟩) (Lib.compact (ss.mergeSort fun x y => decide (x ≤ y))).length cap))
      (putRow (Value.int .i64) (Sort.ahead (grow (putRow (Value.int .i64) (Sort.ahead w1 nn) g 0 (ss.mergeSort fun x y => decide (x ≤ y)).toArray) os) q) g 0 (Lib.compact (ss.mergeSort fun x y => decide (x ≤ y)) ++ List.replicate (n - (Lib.compact (ss.mergeSort fun x y => decide (x ≤ y))).length) 0).toArray) := by
  have hl2 : (ss.mergeSort fun x y => decide (x ≤ y)).length = ss.length := List.length_mergeSort ss
  have hle := Lib.compact_length_le (ss.mergeSort fun x y => decide (x ≤ y))
  subst hlen
  rcases hown.2 with ⟨h0, _⟩ | ⟨g', cap', cur, hv, hbase, hb, h1, h2, h3, h4⟩
  · cases h0
  cases hv
  have hs := ownsRow_sortedI (n := nn) (os := os) (ts := ss.mergeSort fun x y => decide (x ≤ y)) hl2 hbase hb h1 h2 h3
  have hc := Lib.ownsRow_putRow (q := q) (k := (Lib.compact (ss.mergeSort fun x y => decide (x ≤ y))).length) (ys := Lib.compact (ss.mergeSort fun x y => decide (x ≤ y)) ++ List.replicate (ss.length - (Lib.compact (ss.mergeSort fun x y => decide (x ≤ y))).length) 0) hs (by simp; omega) (by omega)
  rw [List.take_left] at hc
  exact ⟨_, rfl, hc, Lib.below_putRow (hbel.grown (grownBy_sortedI _) hbel.size (fun j hj => by cases hj; exact hbase)) hbg⟩

set_option maxHeartbeats 2000000 in
set_option maxRecDepth 100000 in
theorem f_tail (n : Nat) (arg : Value) (ss : List Int) (w : World) (hn : n ≤ 4611686018427387903)
    (hclone : Calls Try.prog 76 #[arg] w fun e w' => ∃ v', e = .returned v' ∧ w'.ownsRow w.heap.size 3 1 v' n (ss.map (Value.int .i64)) ∧ v' ≠ .slice none 0 0 ∧ Below w.heap.size w w') :
    Calls Try.prog 54 #[arg] w (Left w ss) := by
  go_enter Try.func54, Try.ntmps54
  go_wp2_with (first
    | (go_at_call 76; refine hclone.mono ?_; rintro e w1 ⟨v1, rfl, hown, hnn, hbel⟩
       obtain ⟨g, cap, rfl, hbg, hgl, hncap, hcm, hlen, hH⟩ := Lib.holds_of_ownsRow hown hnn
       have hsort := Any.slices_Sort_int Try.laysSort g 0 cap ss w1 hH hgl (by omega)
       rw [hlen] at hsort
       have X : Aside (w1.ownsRow w.heap.size 3 1 (.slice (some ⟨g, 0, none⟩) n cap) n (ss.map (Value.int .i64)) ∧ Below w.heap.size w w1 ∧ w.heap.size ≤ g ∧ g < w1.heap.size ∧ n ≤ cap ∧ cap ≤ maxLen ∧ ss.length = n ∧ Holds (Value.int .i64) w1 g 0 ss.toArray) := ⟨hown, hbel, hbg, hgl, hncap, hcm, hlen, hH⟩
       clear hown hbel hH hnn)
    | (go_at_call 40; refine hsort.mono ?_; rintro e w2 ⟨rfl, nn, os, rfl⟩
       have hl2 : (ss.mergeSort fun x y => decide (x ≤ y)).length = n := by rw [List.length_mergeSort]; exact X.out.2.2.2.2.2.2.1
       have hH2 : Holds (Value.int .i64) (grow (putRow (Value.int .i64) (Sort.ahead w1 nn) g 0 (ss.mergeSort fun x y => decide (x ≤ y)).toArray) os) g 0 (ss.mergeSort fun x y => decide (x ≤ y)).toArray :=
         holds_grow (Value.int .i64) _ os g 0 _ (by simpa [putRow, mapBlock, Sort.ahead] using X.out.2.2.2.1) (holds_putRow (Value.int .i64) _ g 0 _ _ (holds_ahead (Value.int .i64) w1 nn g 0 _ X.out.2.2.2.2.2.2.2) (by simp))
       have hcomp := Any.slices_Compact_int Try.laysCompact g 0 cap (ss.mergeSort fun x y => decide (x ≤ y)) _ hH2 (by omega) (by have := X.out.2.2.2.2.1; omega)
       rw [hl2] at hcomp
       clear hH2 hsort)
    | (go_at_call 77; refine hcomp.mono ?_; rintro e w3 ⟨rfl, q, rfl⟩))
  go_ret
  exact left_of X.out.1 X.out.2.1 X.out.2.2.1 X.out.2.2.2.2.2.2.1
theorem f_any (b off n c : Nat) (zs : List Int) (w : World) (hz : n ≤ zs.length) (hbig : n * 8 ≤ 140737488355328) (hc : ∀ j, j < zs.length → w.cell? ⟨b, off + j, none⟩ = some (.int .i64 (zs.getD j 0))) :
    Calls Try.prog 54 #[.slice (some ⟨b, off, none⟩) n c] w (Left w (zs.take n)) :=
  f_tail n _ _ w (by omega) (Any.slices_Clone_int Try.laysClone b off n c zs w hz hbig hc)
theorem f_zero (a : Addr) (c : Nat) (w : World) : Calls Try.prog 54 #[.slice (some a) 0 c] w (Left w []) :=
  f_tail 0 _ [] w (by omega) (Any.slices_Clone_int_zero Try.laysClone a c w)
set_option maxHeartbeats 2000000 in
theorem f_nil (n c : Nat) (w : World) : Calls Try.prog 54 #[.slice none n c] w fun e w' => e = .returned (.slice none 0 0) ∧ w' = w := by
  go_enter Try.func54, Try.ntmps54
  go_wp2_with (first
    | (go_at_call 76; refine (Any.slices_Clone_int_nil Try.laysClone n c _).mono ?_; rintro e w' ⟨rfl, rfl⟩)
    | (go_at_call 40; refine (Any.slices_Sort_int_none Try.laysSort none 0 _).mono ?_; rintro e w' ⟨rfl, rfl⟩)
    | (go_at_call 77; refine (Any.slices_Compact_int_empty Try.laysCompact none 0 _).mono ?_; rintro e w' ⟨rfl, rfl⟩))
  go_ret
  exact ⟨rfl, rfl⟩
theorem sorted_is [Go.Sh.Laid] : Go.Sh.Contract Try.prog 54 { params := [.val false (.slice 3 (.int .i64))], res := [.row 3 (.int .i64) true] } (fun xs => Go.Sh.N.ite (Go.Sh.N.len xs * 8 ≤ 140737488355328) (some (Go.Sh.N.uniq xs)) none) :=
  Go.Sh.ext_sorted (E := 3) ⟨Try.f54, Try.func54, by kernel_rfl, by kernel_rfl⟩
    (fun b off n c zs w h1 h2 h3 => (f_any b off n c zs w h1 h2 h3).mono fun e w' h => h)
    (fun a c w => (f_zero a c w).mono fun e w' h => by
      obtain ⟨v, h1, h2, h3⟩ := h
      rw [Go.Sh.uniq_nil] at h2
      exact ⟨v, h1, h2, h3⟩)
    (fun c w => f_nil 0 c w)
end Go.Proofs.Ytekclbjiifiahaa.Ex

namespace Go.Proofs.Ytekclbjiifiahaa.Ex
open Go Go.Proofs Go.RowKit Go.Shelf Go.Sort

/-! ## impl.ProvenBy -/
theorem gives39 (x : Int) (W : World) : FnGives Try.prog 39 #[] #[.int .i64 x] (.bool (decide (x = -1))) W := by
  show Calls Try.prog 39 #[.int .i64 x] W _
  go_enter Try.func39, Try.ntmps39
  go_wp2
  all_goals (go_ret; exact ⟨by simp [BEq.beq], 0, rfl⟩)

def keptOf (xs : List Int) : List Int := xs.filter fun x => !decide (x = -1)

theorem holds_prefix {w : World} {g : Nat} {r z : List Int} (h : Holds (Value.int .i64) w g 0 (r ++ z).toArray) : Holds (Value.int .i64) w g 0 r.toArray := by
  intro j hj
  have hj' : j < r.length := by simpa using hj
  have := h j (by simp; omega)
  have e : (r ++ z).toArray[j]! = r.toArray[j]! := by
    rw [getElem!_pos _ j (by simp; omega), getElem!_pos _ j hj]
    simp [List.getElem_append_left hj']
  rw [e] at this
  exact this

theorem row_holds {w' : World} {E : TypeId} {g cap : Nat} {cur : Array Value} {xs : List Int} (hg : w'.heap[g]? = some (.cells cur E (0, 0))) (h1 : xs.length ≤ cap) (h3 : cur.size = cap) (h4 : cur.toList.take xs.length = xs.map (Value.int .i64)) : Holds (Value.int .i64) w' g 0 xs.toArray := by
  intro j hj
  have hj : j < xs.length := by simpa using hj
  constructor
  · unfold World.cell?
    simp only [hg, Option.isSome_none, Bool.false_eq_true, if_false, Nat.zero_add]
    have := congrArg (fun l => l[j]?) h4
    simp only [List.getElem?_take, hj, if_true, List.getElem?_map] at this
    rw [← Array.getElem?_toList, this]
    simp [hj]
  · unfold World.frozen?
    simp [hg]

theorem kept_len (xs : List Int) : (keptOf xs).length ≤ xs.length := List.length_filter_le _ _
theorem seen_len (xs : List Int) : (Go.Sh.N.seen xs).length = (keptOf xs).length := List.length_mergeSort _

theorem del_calls (g cap : Nat) (xs : List Int) (w1 : World) (hH : Holds (Value.int .i64) w1 g 0 xs.toArray) (hbig : xs.length ≤ 9223372036854775807) (hcap : xs.length ≤ cap) :
    Calls Try.prog 38 #[.slice (some ⟨g, 0, none⟩) xs.length cap, .func (.func 39) #[] #[]] w1 fun e w' => e = .returned (.slice (some ⟨g, 0, none⟩) (keptOf xs).length cap) ∧ ∃ q, w' = putRow (Value.int .i64) (Sort.ahead w1 q) g 0 (keptOf xs ++ List.replicate (xs.length - (keptOf xs).length) 0).toArray := by
  have eg : ∀ args w, (callFunc 39 args).run Try.prog w = .ok (.enter 39 args) w := enters_of Try.func39 (by kernel_rfl) rfl
  have := AnyE.slices_DeleteFunc Try.laysDelete (Value.int .i64) (fun _ => rfl) (fun x => decide (x = -1)) 39 #[] eg 0 Try.zeroValue3 g 0 cap xs.toArray w1 (fun W x _ => gives39 x W) (fun n os dk x _ => gives39 x _) hH (by simpa using hbig) (by simpa using hcap)
  simp only [List.size_toArray] at this
  exact this

theorem sort_calls (g cap : Nat) (xs : List Int) (w1 : World) (q : Nat) (hgl : g < w1.heap.size) (hH : Holds (Value.int .i64) w1 g 0 xs.toArray) (hbig : xs.length * 8 ≤ 140737488355328) :
    Calls Try.prog 40 #[.slice (some ⟨g, 0, none⟩) (keptOf xs).length cap] (putRow (Value.int .i64) (Sort.ahead w1 q) g 0 (keptOf xs ++ List.replicate (xs.length - (keptOf xs).length) 0).toArray) fun e w' => e = .returned (.tuple #[]) ∧ ∃ n os, w' = grow (putRow (Value.int .i64) (Sort.ahead (putRow (Value.int .i64) (Sort.ahead w1 q) g 0 (keptOf xs ++ List.replicate (xs.length - (keptOf xs).length) 0).toArray) n) g 0 (Go.Sh.N.seen xs).toArray) os := by
  have hl := kept_len xs
  have hH2 : Holds (Value.int .i64) (putRow (Value.int .i64) (Sort.ahead w1 q) g 0 (keptOf xs ++ List.replicate (xs.length - (keptOf xs).length) 0).toArray) g 0 (keptOf xs ++ List.replicate (xs.length - (keptOf xs).length) 0).toArray :=
    holds_putRow (Value.int .i64) _ g 0 _ _ (holds_ahead (Value.int .i64) w1 q g 0 _ hH) (by simp; omega)
  exact Any.slices_Sort_int Try.laysSort g 0 cap (keptOf xs) _ (holds_prefix hH2) (by simpa [putRow, mapBlock, Sort.ahead] using hgl) (by omega)

/-- what stands when the numbers have been sorted -/
theorem after_sort (w w1 : World) (g q n : Nat) (os : Array Obj) (xs : List Int) (hbg : w.heap.size ≤ g) (hgl : g < w1.heap.size) (hH : Holds (Value.int .i64) w1 g 0 xs.toArray) (hbel : Below w.heap.size w w1) :
    Below w.heap.size w (grow (putRow (Value.int .i64) (Sort.ahead (putRow (Value.int .i64) (Sort.ahead w1 q) g 0 (keptOf xs ++ List.replicate (xs.length - (keptOf xs).length) 0).toArray) n) g 0 (Go.Sh.N.seen xs).toArray) os) ∧
    Holds (Value.int .i64) (grow (putRow (Value.int .i64) (Sort.ahead (putRow (Value.int .i64) (Sort.ahead w1 q) g 0 (keptOf xs ++ List.replicate (xs.length - (keptOf xs).length) 0).toArray) n) g 0 (Go.Sh.N.seen xs).toArray) os) g 0 (Go.Sh.N.seen xs).toArray := by
  have hl := kept_len xs
  have hs := seen_len xs
  have hH2 : Holds (Value.int .i64) (putRow (Value.int .i64) (Sort.ahead w1 q) g 0 (keptOf xs ++ List.replicate (xs.length - (keptOf xs).length) 0).toArray) g 0 (keptOf xs ++ List.replicate (xs.length - (keptOf xs).length) 0).toArray :=
    holds_putRow (Value.int .i64) _ g 0 _ _ (holds_ahead (Value.int .i64) w1 q g 0 _ hH) (by simp; omega)
  have hsz : (putRow (Value.int .i64) (Sort.ahead (putRow (Value.int .i64) (Sort.ahead w1 q) g 0 (keptOf xs ++ List.replicate (xs.length - (keptOf xs).length) 0).toArray) n) g 0 (Go.Sh.N.seen xs).toArray).heap.size = w1.heap.size := by simp [putRow, mapBlock, Sort.ahead]
  have hsz2 : (grow (putRow (Value.int .i64) (Sort.ahead (putRow (Value.int .i64) (Sort.ahead w1 q) g 0 (keptOf xs ++ List.replicate (xs.length - (keptOf xs).length) 0).toArray) n) g 0 (Go.Sh.N.seen xs).toArray) os).heap.size = w1.heap.size + os.size := by simp [grow, putRow, mapBlock, Sort.ahead]
  constructor
  · refine ⟨hbel.os, hbel.tape, hbel.output, Nat.le_trans hbel.size (by rw [hsz2]; omega), fun b hb => ?_⟩
    rw [Go.Sh.grow_heap (by rw [hsz]; omega), Go.Sh.putRow_heap, if_neg (by omega)]
    show (putRow _ (Sort.ahead w1 q) g 0 _).heap[b]? = _
    rw [Go.Sh.putRow_heap, if_neg (by omega)]
    exact hbel.block b hb
  · refine holds_grow (Value.int .i64) _ os g 0 _ (by rw [hsz]; exact hgl) (holds_putRow (Value.int .i64) _ g 0 (keptOf xs).toArray _ (holds_ahead (Value.int .i64) _ n g 0 _ (holds_prefix hH2)) (by simp [hs]))

set_option maxHeartbeats 4000000 in
set_option maxRecDepth 100000 in
theorem pb_in (v1 v2 v3 : Value) (m : Nat) (w : World) (xs : List Int) (hbig : xs.length * 8 ≤ 140737488355328) (hm : m < (keptOf xs).length)
    (hcall : Calls Try.prog 18 #[v1, v2, v3] w fun e w' => ∃ g cap, e = .returned (.slice (some ⟨g, 0, none⟩) xs.length cap) ∧ Holds (Value.int .i64) w' g 0 xs.toArray ∧ w.heap.size ≤ g ∧ g < w'.heap.size ∧ xs.length ≤ cap ∧ Below w.heap.size w w') :
    Calls Try.prog 13 #[v1, v2, v3, .int .i64 m] w fun e w' => e = .returned (.int .i64 ((Go.Sh.N.seen xs).getD m 0)) ∧ Below w.heap.size w w' := by
  have HB : Hid (xs.length * 8 ≤ 140737488355328) := hbig
  clear hbig
  go_enter Try.func13, Try.ntmps13
  go_wp2_with (first
    | (go_at_call 18; refine hcall.mono ?_; rintro e w1 ⟨g, cap, rfl, hH, hbg, hgl, hncap, hbel⟩
       have hdel := del_calls g cap xs w1 hH (by have := HB.out; omega) hncap
       have X : Aside (Holds (Value.int .i64) w1 g 0 xs.toArray ∧ w.heap.size ≤ g ∧ g < w1.heap.size ∧ Below w.heap.size w w1) := ⟨hH, hbg, hgl, hbel⟩
       clear hH hbel)
    | (go_at_call 38; refine hdel.mono ?_; rintro e w2 ⟨rfl, q, rfl⟩
       have hsort := sort_calls g cap xs w1 q X.out.2.2.1 X.out.1 HB.out
       clear hdel)
    | (go_at_call 40; refine hsort.mono ?_; rintro e w3 ⟨rfl, n, os, rfl⟩
       have Y : Aside _ := after_sort w w1 g q n os xs X.out.2.1 X.out.2.2.1 X.out.1 X.out.2.2.2
       have hcell := (Y.out.2 m (by simpa [seen_len] using hm)).1
       rw [Nat.zero_add, getElem!_pos _ m (by simpa [seen_len] using hm)] at hcell
       generalize grow (putRow (Value.int .i64) (Sort.ahead (putRow (Value.int .i64) (Sort.ahead w1 q) g 0 (keptOf xs ++ List.replicate (xs.length - (keptOf xs).length) 0).toArray) n) g 0 (Go.Sh.N.seen xs).toArray) os = w4 at *
       clear hsort)
    | go_in)
  go_ret
  have hv : (Go.Sh.N.seen xs).getD m 0 = (Go.Sh.N.seen xs)[m]'(by rw [seen_len]; exact hm) := by simp [seen_len, hm]
  refine ⟨?_, Y.out.1⟩
  rw [hv]; simp

set_option maxHeartbeats 4000000 in
set_option maxRecDepth 100000 in
theorem pb_out (v1 v2 v3 : Value) (k : Int) (w : World) (xs : List Int) (hbig : xs.length * 8 ≤ 140737488355328) (hm : ¬ (0 ≤ k ∧ k < ((keptOf xs).length : Int)))
    (hcall : Calls Try.prog 18 #[v1, v2, v3] w fun e w' => ∃ g cap, e = .returned (.slice (some ⟨g, 0, none⟩) xs.length cap) ∧ Holds (Value.int .i64) w' g 0 xs.toArray ∧ w.heap.size ≤ g ∧ g < w'.heap.size ∧ xs.length ≤ cap ∧ Below w.heap.size w w') :
    Calls Try.prog 13 #[v1, v2, v3, .int .i64 k] w fun e w' => e = .returned (.int .i64 (-1)) ∧ Below w.heap.size w w' := by
  have HB : Hid (xs.length * 8 ≤ 140737488355328) := hbig
  have HM : Hid (¬ (0 ≤ k ∧ k < ((keptOf xs).length : Int))) := hm
  clear hbig hm
  go_enter Try.func13, Try.ntmps13
  go_wp2_with (first
    | (go_at_call 18; refine hcall.mono ?_; rintro e w1 ⟨g, cap, rfl, hH, hbg, hgl, hncap, hbel⟩
       have hdel := del_calls g cap xs w1 hH (by have := HB.out; omega) hncap
       have X : Aside (Holds (Value.int .i64) w1 g 0 xs.toArray ∧ w.heap.size ≤ g ∧ g < w1.heap.size ∧ Below w.heap.size w w1) := ⟨hH, hbg, hgl, hbel⟩
       clear hH hbel)
    | (go_at_call 38; refine hdel.mono ?_; rintro e w2 ⟨rfl, q, rfl⟩
       have hsort := sort_calls g cap xs w1 q X.out.2.2.1 X.out.1 HB.out
       clear hdel)
    | (go_at_call 40; refine hsort.mono ?_; rintro e w3 ⟨rfl, n, os, rfl⟩
       have Y : Aside _ := after_sort w w1 g q n os xs X.out.2.1 X.out.2.2.1 X.out.1 X.out.2.2.2
       generalize grow (putRow (Value.int .i64) (Sort.ahead (putRow (Value.int .i64) (Sort.ahead w1 q) g 0 (keptOf xs ++ List.replicate (xs.length - (keptOf xs).length) 0).toArray) n) g 0 (Go.Sh.N.seen xs).toArray) os = w4 at *
       clear hsort)
    | go_in)
  all_goals first
    | (exfalso
       have hh : (!decide (k < ((keptOf xs).length : Int))) = false := by assumption
       exact HM.out ⟨by assumption, by simpa using hh⟩)
    | (go_ret; exact ⟨rfl, Y.out.1⟩)

set_option maxHeartbeats 4000000 in
set_option maxRecDepth 100000 in
theorem pb_empty (v1 v2 v3 : Value) (k : Int) (w : World)
    (hcall : Calls Try.prog 18 #[v1, v2, v3] w fun e w' => ∃ A c, e = .returned (.slice A 0 c) ∧ Below w.heap.size w w') :
    Calls Try.prog 13 #[v1, v2, v3, .int .i64 k] w fun e w' => e = .returned (.int .i64 (-1)) ∧ Below w.heap.size w w' := by
  have hix : ∀ (A : Option Addr) (c : Nat) (w1 : World), Calls Try.prog 68 #[.slice A 0 c, .func (.func 39) #[] #[]] w1 fun e w' => e = .returned (.int .i64 (-1)) ∧ w' = w1 := fun A c w1 =>
    AnyE.slices_IndexFunc_empty (P := Try.prog) (ρ := Try.laysDelete_ren) { Try.laysDelete with } A c (.func (.func 39) #[] #[]) w1
  go_enter Try.func13, Try.ntmps13
  go_wp2_with (first
    | (go_at_call 18; refine hcall.mono ?_; rintro e w1 ⟨A, c, rfl, hbel⟩
       have X : Aside (Below w.heap.size w w1) := hbel
       have hix1 := hix A c w1
       have hsort := Any.slices_Sort_int_none Try.laysSort A c w1
       clear hbel)
    | (go_at_call 68; refine hix1.mono ?_; rintro e w2 ⟨rfl, rfl⟩)
    | (go_at_call 40; refine hsort.mono ?_; rintro e w3 ⟨rfl, rfl⟩)
    | go_in)
  all_goals first
    | (exfalso
       have hh : (!decide (k < 0)) = false := by assumption
       have h2 : k < 0 := by simpa using hh
       omega)
    | (go_ret; exact ⟨rfl, X.out⟩)

theorem pb_any (v1 v2 v3 : Value) (k : Int) (w : World) (xs : List Int) (hbig : xs.length * 8 ≤ 140737488355328)
    (hcall : Calls Try.prog 18 #[v1, v2, v3] w fun e w' => ∃ v, e = .returned v ∧ Go.Sh.RowAt w w' 3 v xs ∧ Below w.heap.size w w') :
    Calls Try.prog 13 #[v1, v2, v3, .int .i64 k] w fun e w' => e = .returned (.int .i64 (Go.Sh.N.provenAt xs k)) ∧ Below w.heap.size w w' := by
  by_cases hnil : xs = []
  · subst hnil
    have hp : Go.Sh.N.provenAt [] k = -1 := by
      unfold Go.Sh.N.provenAt Go.Sh.N.seen
      rw [if_neg (by simp)]
    rw [hp]
    refine pb_empty v1 v2 v3 k w (hcall.mono fun e w' he => ?_)
    obtain ⟨v, rfl, hr, hb⟩ := he
    rcases hr with ⟨_, A, rfl⟩ | ⟨g, cap, cur, rfl, _⟩
    · exact ⟨A, 0, rfl, hb⟩
    · exact ⟨_, cap, rfl, hb⟩
  · have hcall' : Calls Try.prog 18 #[v1, v2, v3] w fun e w' => ∃ g cap, e = .returned (.slice (some ⟨g, 0, none⟩) xs.length cap) ∧ Holds (Value.int .i64) w' g 0 xs.toArray ∧ w.heap.size ≤ g ∧ g < w'.heap.size ∧ xs.length ≤ cap ∧ Below w.heap.size w w' := hcall.mono fun e w' he => by
      obtain ⟨v, rfl, hr, hb⟩ := he
      rcases hr with ⟨h, _⟩ | ⟨g, cap, cur, rfl, h1, h2, h3, h4, h5, h6⟩
      · exact absurd h hnil
      · have hgl : g < w'.heap.size := by
          false_or_by_contra
          rw [Array.getElem?_eq_none (by omega)] at h2
          cases h2
        exact ⟨g, cap, rfl, row_holds h2 h3 h5 h6, h1, hgl, h3, hb⟩
    by_cases hk : 0 ≤ k ∧ k < ((keptOf xs).length : Int)
    · obtain ⟨m, rfl⟩ : ∃ m : Nat, k = (m : Int) := ⟨k.toNat, by omega⟩
      have := pb_in v1 v2 v3 m w xs hbig (by omega) hcall'
      have hp : Go.Sh.N.provenAt xs (m : Int) = (Go.Sh.N.seen xs).getD m 0 := by
        unfold Go.Sh.N.provenAt
        rw [if_pos (by rw [seen_len]; exact hk)]; rfl
      rw [hp]; exact this
    · have := pb_out v1 v2 v3 k w xs hbig hk hcall'
      have hp : Go.Sh.N.provenAt xs k = -1 := by
        unfold Go.Sh.N.provenAt
        rw [if_neg (by rw [seen_len]; exact hk)]
      rw [hp]; exact this

theorem provenBy_is [Go.Sh.Laid] {T : Go.Sh.Ty} {F : ({ params := [.val false (.slice 3 (.int .i64)), .val false T, .val false (.int .i64)], res := [.row 3 (.int .i64) false] } : Go.Sh.Sig).args → Option ({ params := [.val false (.slice 3 (.int .i64)), .val false T, .val false (.int .i64)], res := [.row 3 (.int .i64) false] } : Go.Sh.Sig).outs}
    (hc : Go.Sh.Contract Try.prog 18 { params := [.val false (.slice 3 (.int .i64)), .val false T, .val false (.int .i64)], res := [.row 3 (.int .i64) false] } F) :
    Go.Sh.Contract Try.prog 13 { params := [.val false (.slice 3 (.int .i64)), .val false T, .val false (.int .i64), .val false (.int .i64)], res := [.val false (.int .i64)] } (fun a => Go.Sh.N.bind (F (a.1, a.2.1, a.2.2.1)) fun r1 => Go.Sh.N.ite (Go.Sh.N.len (show List Int from r1) * 8 ≤ 140737488355328) (some (Go.Sh.N.provenAt r1 a.2.2.2)) none) :=
  Go.Sh.ext_after hc ⟨Try.f13, Try.func13, by kernel_rfl, by kernel_rfl⟩ Go.Sh.N.provenAt fun v1 v2 v3 k w xs hb h => pb_any v1 v2 v3 k w xs hb h
end Go.Proofs.Ytekclbjiifiahaa.Ex

