/- Functions of the library and of the program that the evaluator does not take: their contracts out of the shelf. -/
import Derived.Test.YtekclbjiifiahabSh9
import Derived.Shelf.Slices.Clone
import Derived.Shelf.Slices.CompactI
import Derived.Shelf.Slices.Empties
import Derived.Shelf.Sort.Plain
import Derived.Shelf.Spec.SlicesInsertGrow
import Derived.Ground.NamesProg
import Derived.Ground.Names2Prog
import Derived.Test.YtekclbjiifiahabProg
import Derived.WalkKit
import Derived.Deep.LoopGhost
import Derived.Sort.OwnSortedInts
import Derived.Sort.Grow
import Derived.Lib.OwnBridge
import Derived.Below
import Derived.Sort.Row
import Derived.Shelf.Slices.In.SortNone
import Derived.Lib.LazyBuf
import Derived.LoopTactic
set_option linter.unusedVariables false
namespace Go.Proofs
open Go.Shelf
def Try.laysClone_ren : Go.Shelf.Ren := ⟨fun | 15 => 50 | n => n, fun | 22 => 35 | 3 => 3 | 4 => 4 | n => n, fun | n => n⟩
theorem Try.laysClone : Go.Proofs.Lays2.n15 Try.prog Try.laysClone_ren := {
  mixed := by kernel_rfl
  f15 := Try.func50.trans (congrArg some (by kernel_rfl))
  t3 := Try.underlying3
  a3 := Try.isAgg3
  z3 := Try.sizeOf3
  v3 := Try.zeroValue3
  t4 := Try.underlying4
  a4 := Try.isAgg4
  z4 := Try.sizeOf4
  v4 := Try.zeroValue4
  t22 := Try.underlying35
  a22 := Try.isAgg35
  z22 := Try.sizeOf35
  v22 := Try.zeroValue35
  i3 := by kernel_rfl }
def Try.laysCompact_ren : Go.Shelf.Ren := ⟨fun | 20 => 63 | n => n, fun | 22 => 35 | 3 => 3 | 4 => 4 | 0 => 0 | n => n, fun | n => n⟩
theorem Try.laysCompact : Go.Proofs.Lays2.n20 Try.prog Try.laysCompact_ren := {
  mixed := by kernel_rfl
  f20 := Try.func63.trans (congrArg some (by kernel_rfl))
  t0 := Try.underlying0
  a0 := Try.isAgg0
  z0 := Try.sizeOf0
  v0 := Try.zeroValue0
  t3 := Try.underlying3
  a3 := Try.isAgg3
  z3 := Try.sizeOf3
  v3 := Try.zeroValue3
  t4 := Try.underlying4
  a4 := Try.isAgg4
  z4 := Try.sizeOf4
  v4 := Try.zeroValue4
  t22 := Try.underlying35
  a22 := Try.isAgg35
  z22 := Try.sizeOf35
  v22 := Try.zeroValue35
  i3 := by kernel_rfl }
def Try.laysSort_ren : Go.Shelf.Ren := ⟨fun | 189 => 62 | 125 => 76 | 257 => 75 | 128 => 90 | 129 => 91 | 294 => 81 | 295 => 82 | 296 => 83 | 297 => 84 | 298 => 85 | 299 => 86 | 216 => 87 | 300 => 88 | 301 => 89 | 328 => 94 | 329 => 95 | 330 => 96 | 331 => 97 | 332 => 98 | 215 => 65 | 343 => 100 | n => n, fun | 28 => 35 | 3 => 3 | 46 => 77 | 0 => 0 | 51 => 91 | 53 => 93 | 4 => 4 | 183 => 83 | 182 => 82 | 131 => 88 | 5 => 5 | 9 => 9 | 218 => 94 | 222 => 98 | 228 => 100 | 229 => 101 | n => n, fun | n => n⟩
theorem Try.laysSort : Go.Proofs.Lays.n189 Try.prog Try.laysSort_ren := {
  mixed := by kernel_rfl
  f125 := Try.func76.trans (congrArg some (by kernel_rfl))
  f128 := Try.func90.trans (congrArg some (by kernel_rfl))
  f129 := Try.func91.trans (congrArg some (by kernel_rfl))
  f189 := Try.func62.trans (congrArg some (by kernel_rfl))
  f215 := Try.func65.trans (congrArg some (by kernel_rfl))
  f216 := Try.func87.trans (congrArg some (by kernel_rfl))
  f257 := Try.func75.trans (congrArg some (by kernel_rfl))
  f294 := Try.func81.trans (congrArg some (by kernel_rfl))
  f295 := Try.func82.trans (congrArg some (by kernel_rfl))
  f296 := Try.func83.trans (congrArg some (by kernel_rfl))
  f297 := Try.func84.trans (congrArg some (by kernel_rfl))
  f298 := Try.func85.trans (congrArg some (by kernel_rfl))
  f299 := Try.func86.trans (congrArg some (by kernel_rfl))
  f300 := Try.func88.trans (congrArg some (by kernel_rfl))
  f301 := Try.func89.trans (congrArg some (by kernel_rfl))
  f328 := Try.func94.trans (congrArg some (by kernel_rfl))
  f329 := Try.func95.trans (congrArg some (by kernel_rfl))
  f330 := Try.func96.trans (congrArg some (by kernel_rfl))
  f331 := Try.func97.trans (congrArg some (by kernel_rfl))
  f332 := Try.func98.trans (congrArg some (by kernel_rfl))
  f343 := Try.func100.trans (congrArg some (by kernel_rfl))
  t0 := Try.underlying0
  a0 := Try.isAgg0
  z0 := Try.sizeOf0
  v0 := Try.zeroValue0
  t3 := Try.underlying3
  a3 := Try.isAgg3
  z3 := Try.sizeOf3
  v3 := Try.zeroValue3
  t4 := Try.underlying4
  a4 := Try.isAgg4
  z4 := Try.sizeOf4
  v4 := Try.zeroValue4
  t5 := Try.underlying5
  a5 := Try.isAgg5
  z5 := Try.sizeOf5
  v5 := Try.zeroValue5
  t9 := Try.underlying9
  a9 := Try.isAgg9
  z9 := Try.sizeOf9
  v9 := Try.zeroValue9
  t28 := Try.underlying35
  a28 := Try.isAgg35
  z28 := Try.sizeOf35
  v28 := Try.zeroValue35
  t46 := Try.underlying77
  a46 := Try.isAgg77
  z46 := Try.sizeOf77
  v46 := Try.zeroValue77
  t51 := Try.underlying91
  a51 := Try.isAgg91
  z51 := Try.sizeOf91
  v51 := Try.zeroValue91
  t53 := Try.underlying93
  a53 := Try.isAgg93
  z53 := Try.sizeOf93
  v53 := Try.zeroValue93
  t131 := Try.underlying88
  a131 := Try.isAgg88
  z131 := Try.sizeOf88
  v131 := Try.zeroValue88
  t182 := Try.underlying82
  a182 := Try.isAgg82
  z182 := Try.sizeOf82
  v182 := Try.zeroValue82
  t183 := Try.underlying83
  a183 := Try.isAgg83
  z183 := Try.sizeOf83
  v183 := Try.zeroValue83
  t218 := Try.underlying94
  a218 := Try.isAgg94
  z218 := Try.sizeOf94
  v218 := Try.zeroValue94
  t222 := Try.underlying98
  a222 := Try.isAgg98
  z222 := Try.sizeOf98
  v222 := Try.zeroValue98
  t228 := Try.underlying100
  a228 := Try.isAgg100
  z228 := Try.sizeOf100
  v228 := Try.zeroValue100
  t229 := Try.underlying101
  a229 := Try.isAgg101
  z229 := Try.sizeOf101
  v229 := Try.zeroValue101 }
def Try.laysInsert_ren : Go.Shelf.Ren := ⟨fun | 21 => 57 | 27 => 68 | 28 => 69 | 35 => 79 | 39 => 93 | n => n, fun | 22 => 35 | 3 => 3 | 4 => 4 | 0 => 0 | n => n, fun | n => n⟩
theorem Try.laysInsert : Go.Proofs.Lays2.n21 Try.prog Try.laysInsert_ren := {
  mixed := by kernel_rfl
  f21 := Try.func57.trans (congrArg some (by kernel_rfl))
  f27 := Try.func68.trans (congrArg some (by kernel_rfl))
  f28 := Try.func69.trans (congrArg some (by kernel_rfl))
  f35 := Try.func79.trans (congrArg some (by kernel_rfl))
  f39 := Try.func93.trans (congrArg some (by kernel_rfl))
  t0 := Try.underlying0
  a0 := Try.isAgg0
  z0 := Try.sizeOf0
  v0 := Try.zeroValue0
  t3 := Try.underlying3
  a3 := Try.isAgg3
  z3 := Try.sizeOf3
  v3 := Try.zeroValue3
  t4 := Try.underlying4
  a4 := Try.isAgg4
  z4 := Try.sizeOf4
  v4 := Try.zeroValue4
  t22 := Try.underlying35
  a22 := Try.isAgg35
  z22 := Try.sizeOf35
  v22 := Try.zeroValue35
  i3 := by kernel_rfl }
end Go.Proofs

namespace Go.Proofs.Ytekclbjiifiahab.Ex
open Go Go.Proofs Go.RowKit Go.Shelf Go.Sort

def Left (w : World) (ss : List Int) (e : Ending) (w' : World) : Prop :=
  ∃ v, e = .returned v ∧ w'.ownsRow w.heap.size 3 1 v (Go.Sh.N.uniq ss).length ((Go.Sh.N.uniq ss).map (Value.int .i64)) ∧ Below w.heap.size w w'
theorem left_of {w w1 : World} {g cap n nn q : Nat} {os : Array Obj} {ss : List Int} (hown : w1.ownsRow w.heap.size 3 1 (.slice (some ⟨g, 0, none⟩) n cap) n (ss.map (Value.int .i64))) (hbel : Below w.heap.size w w1) (hbg : w.heap.size ≤ g) (hlen : ss.length = n) :
    Left w ss (.returned (.slice (some ⟨g, 0, none⟩) (Lib.compact (ss.mergeSort fun x y => decide (x ≤ y))).length cap))
      (putRow (Value.int .i64) (Sort.ahead (grow (putRow (Value.int .i64) (Sort.ahead w1 nn) g 0 (ss.mergeSort fun x y => decide (x ≤ y)).toArray) os) q) g 0 (Lib.compact (ss.mergeSort fun x y => decide (x ≤ y)) ++ List.replicate (n - (Lib.compact (ss.mergeSort fun x y => decide (x ≤ y))).length) 0).toArray) := by
  have hl2 : (ss.mergeSort fun x y => decide (x ≤ y)).length = ss.length := List.length_mergeSort ss
  have hle := Lib.compact_length_le (ss.mergeSort fun x y => decide (x ≤ y))
  subst hlen
  rcases hown.2 with ⟨h0, _⟩ | ⟨g', cap', cur, hv, hbase, hb, h1, h2, h3, h4⟩
  · cases h0
  cases hv
  have hs := ownsRow_sortedI (n := nn) (os := os) (ts := ss.mergeSort fun x y => decide (x ≤ y)) hl2 hbase hb h1 h2 h3
  have hc := Lib.ownsRow_putRow (q := q) (k := (Lib.compact (ss.mergeSort fun x y => decide (x ≤ y))).length) (ys := Lib.compact (ss.mergeSort fun x y => decide (x ≤ y)) ++ List.replicate (ss.length - (Lib.compact (ss.mergeSort fun x y => decide (x ≤ y))).length) 0) hs (by simp; omega) (by omega)
  rw [List.take_left] at hc
  exact ⟨_, rfl, hc, Lib.below_putRow (hbel.grown (grownBy_sortedI _) hbel.size (fun j hj => by cases hj; exact hbase)) hbg⟩

set_option maxHeartbeats 2000000 in
set_option maxRecDepth 100000 in
theorem f_tail (n : Nat) (arg : Value) (ss : List Int) (w : World) (hn : n ≤ 4611686018427387903)
    (hclone : Calls Try.prog 50 #[arg] w fun e w' => ∃ v', e = .returned v' ∧ w'.ownsRow w.heap.size 3 1 v' n (ss.map (Value.int .i64)) ∧ v' ≠ .slice none 0 0 ∧ Below w.heap.size w w') :
    Calls Try.prog 52 #[arg] w (Left w ss) := by
  go_enter Try.func52, Try.ntmps52
  go_wp2_with (first
    | (go_at_call 50; refine hclone.mono ?_; rintro e w1 ⟨v1, rfl, hown, hnn, hbel⟩
       obtain ⟨g, cap, rfl, hbg, hgl, hncap, hcm, hlen, hH⟩ := Lib.holds_of_ownsRow hown hnn
       have hsort := Any.slices_Sort_int Try.laysSort g 0 cap ss w1 hH hgl (by omega)
       rw [hlen] at hsort
       have X : Aside (w1.ownsRow w.heap.size 3 1 (.slice (some ⟨g, 0, none⟩) n cap) n (ss.map (Value.int .i64)) ∧ Below w.heap.size w w1 ∧ w.heap.size ≤ g ∧ g < w1.heap.size ∧ n ≤ cap ∧ cap ≤ maxLen ∧ ss.length = n ∧ Holds (Value.int .i64) w1 g 0 ss.toArray) := ⟨hown, hbel, hbg, hgl, hncap, hcm, hlen, hH⟩
       clear hown hbel hH hnn)
    | (go_at_call 62; refine hsort.mono ?_; rintro e w2 ⟨rfl, nn, os, rfl⟩
       have hl2 : (ss.mergeSort fun x y => decide (x ≤ y)).length = n := by rw [List.length_mergeSort]; exact X.out.2.2.2.2.2.2.1
       have hH2 : Holds (Value.int .i64) (grow (putRow (Value.int .i64) (Sort.ahead w1 nn) g 0 (ss.mergeSort fun x y => decide (x ≤ y)).toArray) os) g 0 (ss.mergeSort fun x y => decide (x ≤ y)).toArray :=
         holds_grow (Value.int .i64) _ os g 0 _ (by simpa [putRow, mapBlock, Sort.ahead] using X.out.2.2.2.1) (holds_putRow (Value.int .i64) _ g 0 _ _ (holds_ahead (Value.int .i64) w1 nn g 0 _ X.out.2.2.2.2.2.2.2) (by simp))
       have hcomp := Any.slices_Compact_int Try.laysCompact g 0 cap (ss.mergeSort fun x y => decide (x ≤ y)) _ hH2 (by omega) (by have := X.out.2.2.2.2.1; omega)
       rw [hl2] at hcomp
       clear hH2 hsort)
    | (go_at_call 63; refine hcomp.mono ?_; rintro e w3 ⟨rfl, q, rfl⟩))
  go_ret
  exact left_of X.out.1 X.out.2.1 X.out.2.2.1 X.out.2.2.2.2.2.2.1
theorem f_any (b off n c : Nat) (zs : List Int) (w : World) (hz : n ≤ zs.length) (hbig : n * 8 ≤ 140737488355328) (hc : ∀ j, j < zs.length → w.cell? ⟨b, off + j, none⟩ = some (.int .i64 (zs.getD j 0))) :
    Calls Try.prog 52 #[.slice (some ⟨b, off, none⟩) n c] w (Left w (zs.take n)) :=
  f_tail n _ _ w (by omega) (Any.slices_Clone_int Try.laysClone b off n c zs w hz hbig hc)
theorem f_zero (a : Addr) (c : Nat) (w : World) : Calls Try.prog 52 #[.slice (some a) 0 c] w (Left w []) :=
  f_tail 0 _ [] w (by omega) (Any.slices_Clone_int_zero Try.laysClone a c w)
set_option maxHeartbeats 2000000 in
theorem f_nil (n c : Nat) (w : World) : Calls Try.prog 52 #[.slice none n c] w fun e w' => e = .returned (.slice none 0 0) ∧ w' = w := by
  go_enter Try.func52, Try.ntmps52
  go_wp2_with (first
    | (go_at_call 50; refine (Any.slices_Clone_int_nil Try.laysClone n c _).mono ?_; rintro e w' ⟨rfl, rfl⟩)
    | (go_at_call 62; refine (Any.slices_Sort_int_none Try.laysSort none 0 _).mono ?_; rintro e w' ⟨rfl, rfl⟩)
    | (go_at_call 63; refine (Any.slices_Compact_int_empty Try.laysCompact none 0 _).mono ?_; rintro e w' ⟨rfl, rfl⟩))
  go_ret
  exact ⟨rfl, rfl⟩
theorem sorted_is [Go.Sh.Laid] : Go.Sh.Contract Try.prog 52 { params := [.val false (.slice 3 (.int .i64))], res := [.row 3 (.int .i64) true] } (fun xs => Go.Sh.N.ite (Go.Sh.N.len xs * 8 ≤ 140737488355328) (some (Go.Sh.N.uniq xs)) none) :=
  Go.Sh.ext_sorted (E := 3) ⟨Try.f52, Try.func52, by kernel_rfl, by kernel_rfl⟩
    (fun b off n c zs w h1 h2 h3 => (f_any b off n c zs w h1 h2 h3).mono fun e w' h => h)
    (fun a c w => (f_zero a c w).mono fun e w' h => by
      obtain ⟨v, h1, h2, h3⟩ := h
      rw [Go.Sh.uniq_nil] at h2
      exact ⟨v, h1, h2, h3⟩)
    (fun c w => f_nil 0 c w)
end Go.Proofs.Ytekclbjiifiahab.Ex

namespace Go.Proofs.Ytekclbjiifiahab.Ex
open Go Go.Proofs Go.RowKit Go.Shelf Go.Sort

/-! ## A number set into a row of one's own -/
def setAt (xs : List Int) (k : Nat) (d : Int) : List Int := xs.take k ++ d :: xs.drop k
theorem setAt_len {xs : List Int} {k : Nat} {d : Int} (hk : k ≤ xs.length) : (setAt xs k d).length = xs.length + 1 := by simp [setAt]; omega
theorem setAt_get {xs : List Int} {k : Nat} {d : Int} (hk : k ≤ xs.length) (j : Nat) : (setAt xs k d)[j]? = if j < k then xs[j]? else if j = k then some d else xs[j - 1]? := by
  unfold setAt
  by_cases h1 : j < k
  · rw [if_pos h1, List.getElem?_append_left (by simp; omega), List.getElem?_take, if_pos h1]
  · rw [if_neg h1, List.getElem?_append_right (by simp; omega)]
    have hl : (xs.take k).length = k := by simp; omega
    rw [hl]
    by_cases h2 : j = k
    · rw [if_pos h2, h2]; simp
    · rw [if_neg h2, show j - k = (j - 1 - k) + 1 by omega, List.getElem?_cons_succ, List.getElem?_drop]
      congr 1; omega

theorem get_some {cur : Array Value} {i : Nat} (h : i < cur.size) : cur[i]? = some ((cur[i]?).getD default) := by simp [h]
theorem new_at (w : World) (o : Obj) : (w.alloc o).heap[w.heap.size]? = some o := by show (w.heap.push o)[w.heap.size]? = _; simp
theorem own_of_rowIs {w : World} {B g cap n : Nat} {f : Nat → Value} {vals : List Value} (h : w.rowIs g 3 cap f) (hB : B ≤ g) (hn : n ≤ cap) (hc : cap ≤ maxLen) (hl : vals.length = n) (hv : ∀ j, j < n → vals[j]? = some (f j)) : w.ownsRow B 3 1 (.slice (some ⟨g, 0, none⟩) n cap) n vals := by
  obtain ⟨c, h1, h2, h3⟩ := h
  refine ⟨by rw [hl, Nat.mul_one], .inr ⟨g, cap, c, rfl, hB, h1, hn, hc, by rw [h2, Nat.mul_one], ?_⟩⟩
  rw [Nat.mul_one]
  apply List.ext_getElem?
  intro j
  rw [List.getElem?_take]
  by_cases hj : j < n
  · rw [if_pos hj, hv j hj, Array.getElem?_toList, h3 j (by omega)]
  · rw [if_neg hj, List.getElem?_eq_none (by omega)]

set_option maxHeartbeats 2000000 in
theorem ins_row (B n k : Nat) (v' : Value) (xs : List Int) (d : Int) (w0 w : World) (vb vc : Nat) (hk : k ≤ n) (hlen : xs.length = n) (hown : w.ownsRow B 3 1 v' n (xs.map (Value.int .i64))) (hbel : Below B w0 w) (hBw : B ≤ w.heap.size)
    (hvb : w.heap[vb]? = some (.cells #[.int .i64 d] 3 (0, 0))) (hne : ∀ g c, v' = .slice (some ⟨g, 0, none⟩) n c → vb ≠ g) (hbig : (n + 1) * 8 ≤ 140737488355328) :
    Calls Try.prog 57 #[v', .int .i64 k, .slice (some ⟨vb, 0, none⟩) 1 vc] w fun e w' => ∃ v, e = .returned v ∧ w'.ownsRow B 3 1 v (n + 1) ((setAt xs k d).map (Value.int .i64)) ∧ Below B w0 w' := by
  have hvs : ∀ (j : Nat) v, ([Value.int .i64 d] : List Value)[j]? = some v → w.cell? ⟨vb, 0 + j, none⟩ = some v := fun j v hj => by
    cases j with
    | zero => simp at hj; subst hj; simp [World.cell?, hvb]
    | succ j => simp at hj
  have h1v : ∀ v ∈ ([Value.int .i64 d] : List Value), v.oneCell' = true := fun v hv => by simp at hv; subst hv; rfl
  have h1c : ∀ v ∈ xs.map (Value.int .i64), v.oneCell' = true := fun v hv => by
    obtain ⟨x, _, rfl⟩ := List.mem_map.1 hv; rfl
  have hslen : ((setAt xs k d).map (Value.int .i64)).length = n + 1 := by rw [List.length_map, setAt_len (by omega), hlen]
  have hmx : (n + 1) ≤ maxLen := by unfold maxLen; omega
  -- a new row
  have fresh : ∀ (cap : Nat) (cur : Array Value) (w1 : World), Below B w0 w1 → w1.heap[w.heap.size]? = some (.cells cur 3 (0, 0)) → n + 1 ≤ cap → cap ≤ maxLen → cur.size = cap → (∀ j, j < n + 1 → cur[j]? = ((setAt xs k d).map (Value.int .i64))[j]?) →
      ∃ v, Ending.returned (.slice (some ⟨w.heap.size, 0, none⟩) (n + 1) cap) = .returned v ∧ w1.ownsRow B 3 1 v (n + 1) ((setAt xs k d).map (Value.int .i64)) ∧ Below B w0 w1 := fun cap cur w1 hb hh h1 h2 h3 h4 => by
    refine ⟨_, rfl, own_of_rowIs (f := fun j => (cur[j]?).getD (.bool false)) ⟨cur, hh, h3, fun i hi => ?_⟩ hBw h1 h2 hslen (fun j hj => ?_), hb⟩
    · have : i < cur.size := by omega
      simp [this]
    · rw [← h4 j hj]
      have : j < cur.size := by omega
      simp [this]
  have get : ∀ j, ((setAt xs k d).map (Value.int .i64))[j]? = if j < k then (xs.map (Value.int .i64))[j]? else if j = k then some (.int .i64 d) else (xs.map (Value.int .i64))[j - 1]? := fun j => by
    rw [List.getElem?_map, setAt_get (by omega)]
    split
    · rw [List.getElem?_map]
    · split
      · rfl
      · rw [List.getElem?_map]
  have hcl : (xs.map (Value.int .i64)).length = n := by rw [List.length_map, hlen]
  have hz : ∀ m, (Builtin.zeroCells (Value.int .i64 0).cells m).size = m := fun m => by simp [Builtin.zeroCells, Value.cells]
  rcases hown.2 with ⟨rfl, rfl⟩ | ⟨g, cap, cur, rfl, hbase, hg, q1, q2, q3, q4⟩
  · -- nothing was there
    obtain rfl : k = 0 := by omega
    obtain rfl : xs = [] := List.length_eq_zero_iff.1 hlen
    refine (Any2.slices_Insert_int_end_grow Try.laysInsert none 0 0 vb 0 1 vc [] [.int .i64 d] w (by omega) (by omega) (by omega) (by omega) rfl rfl (fun _ => rfl) (fun a ha => by cases ha) hvs h1v).mono fun e w' he => ?_
    obtain ⟨rfl, rfl⟩ := he
    refine fresh _ _ _ (hbel.drew.alloc (by exact hBw) _) (new_at w.drew _) (grownCap_ge w 1 0 3) (grownCap_le_maxLen w 1 0 3 hmx) ?_ fun j hj => ?_
    · have := grownCap_ge w 1 0 3
      rw [Array.size_append, hz]
      show 1 + (grownCap w 1 0 3 - 1) = grownCap w 1 0 3
      omega
    · obtain rfl : j = 0 := by omega
      rw [Array.getElem?_append_left (by simp)]
      simp [setAt]
  · rw [Nat.mul_one] at q3 q4
    have hgl : g < w.heap.size := by
      false_or_by_contra
      rw [Array.getElem?_eq_none (by omega)] at hg
      cases hg
    have hcell : ∀ j, j < cap → w.cell? ⟨g, j, none⟩ = cur[j]? := fun j _ => by simp [World.cell?, hg]
    have hcs : ∀ (j : Nat) v, (xs.map (Value.int .i64))[j]? = some v → w.cell? ⟨g, 0 + j, none⟩ = some v := fun j v hj => by
      have hjn : j < n := by have := (List.getElem?_eq_some_iff.1 hj).1; omega
      rw [Nat.zero_add, hcell j (by omega), ← Array.getElem?_toList, ← hj, ← q4, List.getElem?_take, if_pos hjn]
    have hsp : ∀ j, j < cap → (w.cell? ⟨g, 0 + j, none⟩).isSome = true := fun j hj => by
      rw [Nat.zero_add, hcell j hj]; simp; omega
    have hfz : ∀ j, w.frozen? ⟨g, 0 + j, none⟩ = false := fun j => by simp [World.frozen?, hg]
    have hrow : w.rowIs g 3 cap (fun j => (cur[j]?).getD default) := ⟨cur, hg, q3, fun i hi => get_some (by omega)⟩
    have hcur : ∀ j, j < n → cur[j]? = (xs.map (Value.int .i64))[j]? := fun j hj => by
      rw [← Array.getElem?_toList, ← q4, List.getElem?_take, if_pos hj]
    have hneg : vb ≠ g := hne g cap rfl
    by_cases hroom : n + 1 ≤ cap
    · by_cases hend : k = n
      · subst hend
        refine (Any2.slices_Insert_int_end_room Try.laysInsert g 0 k cap vb 0 1 vc [.int .i64 d] w (by omega) hroom (by unfold maxLen at q2; omega) rfl (fun j hj => (by rw [Nat.zero_add, hcell _ (by omega)]; simp; omega)) (fun j hj => by have := hfz (k + j); simpa using this) hvs h1v).mono fun e w' he => ?_
        obtain ⟨rfl, rfl⟩ := he
        have hr := Go.rowIs_setCells [Value.int .i64 d] (0 + k) w _ hrow
        refine ⟨_, rfl, own_of_rowIs hr hbase hroom q2 hslen fun j hj => ?_, Go.below_setCells hbase _ _ _ hbel⟩
        rw [get]
        by_cases hjk : j < k
        · rw [if_pos hjk, if_neg (by omega), ← hcur j hjk]
          have : j < cur.size := by omega
          simp [this]
        · obtain rfl : j = k := by omega
          simp
      · refine (Any2.slices_Insert_int_shift Try.laysInsert g 0 n cap k vb 0 1 vc (xs.map (Value.int .i64)) [.int .i64 d] w (by omega) (by omega) hroom (by unfold maxLen at q2; omega) hneg hcl rfl hcs (fun j hj => hsp j (by omega)) (fun j _ => hfz j) hvs h1c h1v
          3 3 1 cap (by simp [World.shape?, hvb]) (by simp [World.shape?, hg, q3]) (by omega) (by simp [World.frozen?, hvb]) (by simp [World.frozen?, hvb])).mono fun e w' he => ?_
        obtain ⟨rfl, rfl⟩ := he
        have hrow' : w.drew.rowIs g 3 cap (fun j => (cur[j]?).getD default) := hrow
        have hr := Go.rowIs_setCells ((xs.map (Value.int .i64)).drop k) (0 + (k + 1)) _ _ hrow'
        have hr2 := Go.rowIs_setCells [Value.int .i64 d] (0 + k) _ _ hr
        refine ⟨_, rfl, own_of_rowIs hr2 hbase hroom q2 hslen fun j hj => ?_, Go.below_setCells hbase _ _ _ (Go.below_setCells hbase _ _ _ hbel.drew)⟩
        rw [get]
        by_cases hjk : j < k
        · rw [if_pos hjk, if_neg (by omega), if_neg (by omega), ← hcur j (by omega)]
          have : j < cur.size := by omega
          simp [this]
        · rw [if_neg hjk]
          by_cases hje : j = k
          · subst hje
            simp
          · rw [if_neg hje, if_neg (by simp; omega), if_pos (by rw [List.length_drop, hcl]; omega), List.getElem?_drop]
            have e : k + (j - (0 + (k + 1))) = j - 1 := by omega
            rw [e]
            have : j - 1 < (xs.map (Value.int .i64)).length := by omega
            rw [List.getElem?_eq_getElem this]; rfl
    · obtain rfl : cap = n := by omega
      by_cases hend : k = cap
      · subst hend
        refine (Any2.slices_Insert_int_end_grow Try.laysInsert (some ⟨g, 0, none⟩) k k vb 0 1 vc (xs.map (Value.int .i64)) [.int .i64 d] w (by omega) (by omega) (by omega) (by omega) hcl rfl (fun h => by cases h) (fun a ha j v hj => by
          cases ha
          rw [Addr.add_lit]
          exact hcs j v hj) hvs h1v).mono fun e w' he => ?_
        obtain ⟨rfl, rfl⟩ := he
        refine fresh _ _ _ (hbel.drew.alloc (by exact hBw) _) (new_at w.drew _) (grownCap_ge w _ _ 3) (grownCap_le_maxLen w _ _ 3 hmx) ?_ fun j hj => ?_
        · have := grownCap_ge w (k + 1) k 3
          rw [Array.size_append, hz]
          show (xs.map (Value.int .i64) ++ [Value.int .i64 d]).toArray.size + (grownCap w (k + 1) k 3 - (k + 1)) = grownCap w (k + 1) k 3
          simp only [List.size_toArray, List.length_append, hcl, List.length_singleton]
          omega
        · rw [get, Array.getElem?_append_left (by simp [hlen]; omega)]
          simp only [List.getElem?_toArray]
          by_cases hjk : j < k
          · rw [if_pos hjk, List.getElem?_append_left (by omega)]
          · obtain rfl : j = k := by omega
            rw [if_neg (by omega), if_pos rfl, List.getElem?_append_right (by omega), hcl]; simp
      · refine (Any2.slices_Insert_int_grow Try.laysInsert g 0 cap cap k vb 0 1 vc (xs.map (Value.int .i64)) [.int .i64 d] w (by omega) (by omega) (by omega) (by omega) (by omega) hcl rfl hcs hvs h1c h1v).mono fun e w' he => ?_
        obtain ⟨rfl, rfl⟩ := he
        have hge := grownCap_ge w (cap + 1) cap 3
        have hsz : ((xs.map (Value.int .i64)).take k).length = k := by simp; omega
        obtain ⟨cur0, hcur0⟩ : ∃ c, c = (((xs.map (Value.int .i64)).take k).toArray ++ Builtin.zeroCells (Value.int .i64 0).cells (cap + 1 - k) ++ Builtin.zeroCells (Value.int .i64 0).cells (grownCap w (cap + 1) cap 3 - (cap + 1))) := ⟨_, rfl⟩
        have hc0 : cur0.size = grownCap w (cap + 1) cap 3 := by rw [hcur0]; simp only [Array.size_append, hz, List.size_toArray, hsz]; omega
        have hr0 : (w.alloc (.cells cur0 3)).drew.rowIs w.heap.size 3 (grownCap w (cap + 1) cap 3) (fun j => (cur0[j]?).getD default) := ⟨cur0, new_at w _, hc0, fun i hi => get_some (by omega)⟩
        have hr := Go.rowIs_setCells [Value.int .i64 d] k _ _ hr0
        have hr' : ((w.alloc (.cells cur0 3)).drew.setCells w.heap.size k [Value.int .i64 d]).drew.rowIs w.heap.size 3 (grownCap w (cap + 1) cap 3) _ := hr
        have hr2 := Go.rowIs_setCells ((xs.map (Value.int .i64)).drop k) (k + 1) _ _ hr'
        have h0 : ∀ j, j < k → cur0[j]? = (xs.map (Value.int .i64))[j]? := fun j hjk => by
          rw [hcur0, Array.append_assoc, Array.getElem?_append_left (by simp; omega)]
          simp only [List.getElem?_toArray]
          rw [List.getElem?_take, if_pos hjk]
        subst hcur0
        refine ⟨_, rfl, own_of_rowIs hr2 hBw hge (grownCap_le_maxLen w _ _ 3 hmx) hslen fun j hj => ?_, Go.below_setCells hBw _ _ _ (Below.drew (Go.below_setCells hBw _ _ _ (Below.drew (hbel.alloc hBw _))))⟩
        rw [get]
        by_cases hjk : j < k
        · rw [if_pos hjk, if_neg (by omega), if_neg (by omega)]
          rw [h0 j hjk]
          have : j < (xs.map (Value.int .i64)).length := by omega
          rw [List.getElem?_eq_getElem this]; rfl
        · rw [if_neg hjk]
          by_cases hje : j = k
          · subst hje
            rw [if_pos rfl, if_neg (by omega), if_pos (by simp)]
            simp
          · rw [if_neg hje, if_pos (by rw [List.length_drop, hcl]; omega), List.getElem?_drop]
            have e : k + (j - (k + 1)) = j - 1 := by omega
            rw [e]
            have : j - 1 < (xs.map (Value.int .i64)).length := by omega
            rw [List.getElem?_eq_getElem this]; rfl
end Go.Proofs.Ytekclbjiifiahab.Ex

namespace Go.Proofs.Ytekclbjiifiahab.Ex
open Go Go.Proofs Go.RowKit Go.Shelf Go.Sort

def WLeft (w : World) (xs : List Int) (d : Int) (e : Ending) (w' : World) : Prop :=
  ∃ v, e = .returned v ∧ w'.ownsRow w.heap.size 3 1 v (Go.Sh.N.withD xs d).length ((Go.Sh.N.withD xs d).map (Value.int .i64)) ∧ Below w.heap.size w w'

theorem takeWhile_len {xs : List Int} {d : Int} {k : Nat} (hk : k ≤ xs.length) (h1 : ∀ j, j < k → xs.getD j 0 < d) (h2 : k = xs.length ∨ ¬ xs.getD k 0 < d) : (xs.takeWhile fun x => decide (x < d)).length = k := by
  induction xs generalizing k with
  | nil => simp at hk; subst hk; rfl
  | cons x xs ih =>
    cases k with
    | zero =>
      rcases h2 with h2 | h2
      · simp at h2
      · simp only [List.getD_cons_zero] at h2
        rw [List.takeWhile_cons_of_neg (by simpa using h2)]; rfl
    | succ k =>
      have h0 := h1 0 (by omega)
      simp only [List.getD_cons_zero] at h0
      rw [List.takeWhile_cons_of_pos (by simpa using h0), List.length_cons, ih (k := k) (by simpa using hk) (fun j hj => by have := h1 (j + 1) (by omega); simpa using this) (by
        rcases h2 with h2 | h2
        · left; simpa using h2
        · right; simpa using h2)]

theorem withD_there {xs : List Int} {d : Int} {k : Nat} (hk : k < xs.length) (h1 : ∀ j, j < k → xs.getD j 0 < d) (h2 : xs.getD k 0 = d) : Go.Sh.N.withD xs d = xs := by
  unfold Go.Sh.N.withD
  have hl := takeWhile_len (Nat.le_of_lt hk) h1 (.inr (by rw [h2]; omega))
  rw [hl, if_pos (by rw [← h2]; simp [hk])]
theorem withD_new {xs : List Int} {d : Int} {k : Nat} (hk : k ≤ xs.length) (h1 : ∀ j, j < k → xs.getD j 0 < d) (h2 : k = xs.length ∨ (¬ xs.getD k 0 < d ∧ xs.getD k 0 ≠ d)) : Go.Sh.N.withD xs d = setAt xs k d := by
  unfold Go.Sh.N.withD
  have hl := takeWhile_len hk h1 (h2.imp id fun h => h.1)
  rw [hl]
  refine if_neg fun h => ?_
  rcases h2 with rfl | ⟨_, h2⟩
  · simp at h
  · rw [List.getD_eq_getElem?_getD, h] at h2
    exact h2 rfl

theorem own_alloc {w : World} {B n : Nat} {v : Value} {vals : List Value} (o : Obj) (h : w.ownsRow B 3 1 v n vals) : (w.alloc o).ownsRow B 3 1 v n vals := by
  refine ⟨h.1, ?_⟩
  rcases h.2 with h | ⟨g, cap, cur, h1, h2, h3, h4⟩
  · exact .inl h
  · refine .inr ⟨g, cap, cur, h1, h2, ?_, h4⟩
    have hg : g < w.heap.size := by
      false_or_by_contra
      rw [Array.getElem?_eq_none (by omega)] at h3
      cases h3
    rw [Below.heap_alloc w o g hg]; exact h3

theorem vb_ne {w1 : World} {B n : Nat} {v1 : Value} {vals : List Value} (h : w1.ownsRow B 3 1 v1 n vals) : ∀ g c, v1 = .slice (some ⟨g, 0, none⟩) n c → w1.heap.size ≠ g := by
  rintro g c rfl h0
  rcases h.2 with ⟨h1, _⟩ | ⟨g', c2, cur, h1, _, h2, _⟩
  · cases h1
  · cases h1
    rw [← h0, Array.getElem?_eq_none (Nat.le_refl _)] at h2
    cases h2

set_option maxHeartbeats 4000000 in
set_option maxRecDepth 100000 in
theorem wd_any (b off n c : Nat) (xs : List Int) (d : Int) (w : World) (hn : xs.length = n) (hbig : (n + 1) * 8 ≤ 140737488355328) (hc : ∀ j, j < n → w.cell? ⟨b, off + j, none⟩ = some (.int .i64 (xs.getD j 0)))
    (hclone : Calls Try.prog 50 #[.slice (some ⟨b, off, none⟩) n c] w fun e w' => ∃ v', e = .returned v' ∧ w'.ownsRow w.heap.size 3 1 v' n (xs.map (Value.int .i64)) ∧ Below w.heap.size w w') :
    Calls Try.prog 34 #[.slice (some ⟨b, off, none⟩) n c, .int .i64 d] w (WLeft w xs d) := by
  have HN : Hid (xs.length = n) := hn
  clear hn
  have HB : Hid ((n + 1) * 8 ≤ 140737488355328) := hbig
  have hb2 : n < 9223372036854775807 := by omega
  clear hbig
  have HC : Aside _ := hc
  clear hc
  go_enter Try.func34, Try.ntmps34
  go_wp2
  go_loop [5] (fun k => ∃ m : Nat, m ≤ n ∧ k = .int .i64 m ∧ ∀ j, j < m → xs.getD j 0 < d) (fun k => match k with | .int _ m => n - m.toNat | _ => 0)
  case atStart => exact ⟨0, Nat.zero_le _, rfl, fun j hj => absurd hj (Nat.not_lt_zero _)⟩
  case round =>
    obtain ⟨k, hk, rfl, hlow⟩ := hrel
    have HL : Aside _ := hlow
    clear hlow
    have hcell : k < n → w.cell? ⟨b, off + k, none⟩ = some (.int .i64 (xs.getD k 0)) := fun h => HC.out k h
    go_wp2_with (first
      | (go_at_call 50; refine hclone.mono ?_; rintro e w1 ⟨v1, rfl, hown, hbel⟩
         have X : Aside (w1.ownsRow w.heap.size 3 1 v1 n (xs.map (Value.int .i64)) ∧ Below w.heap.size w w1) := ⟨hown, hbel⟩
         clear hown hbel)
      | (go_at_call 57; refine (ins_row w.heap.size n k v1 xs d w _ w1.heap.size 1 hk HN.out (own_alloc _ X.out.1) (X.out.2.alloc X.out.2.size _) (Nat.le_trans X.out.2.size (by simp)) (new_at w1 _) (vb_ne X.out.1) HB.out).mono ?_; rintro e w2 ⟨v2, rfl, hown2, hbel2⟩
         have Y : Aside (w2.ownsRow w.heap.size 3 1 v2 (n + 1) ((setAt xs k d).map (Value.int .i64)) ∧ Below w.heap.size w w2) := ⟨hown2, hbel2⟩
         clear hown2 hbel2))
    · rename_i h1 h2
      refine ⟨⟨k + 1, by omega, rfl, fun j hj => ?_⟩, ?_⟩
      · by_cases hjk : j < k
        · exact HL.out j hjk
        · obtain rfl : j = k := by omega
          rw [List.getD_eq_getElem?_getD]; exact h2
      · show n - ((k : Int) + 1).toNat < n - (k : Int).toNat
        omega
    · rename_i h1 _ _ h2 _ _ _
      have hkn : k < n := by assumption
      have heq : (xs[k]?.getD 0 == d) = true := by assumption
      go_ret
      have hw := withD_there (xs := xs) (d := d) (k := k) (by rw [HN.out]; exact hkn) HL.out (by rw [List.getD_eq_getElem?_getD]; exact beq_iff_eq.1 heq)
      refine ⟨v1, rfl, ?_, X.out.2⟩
      rw [hw, HN.out]; exact X.out.1
    · have hkn : k < n := by assumption
      have hge : d ≤ xs[k]?.getD 0 := by assumption
      have heq : (xs[k]?.getD 0 == d) = false := by assumption
      go_ret
      have hw := withD_new (xs := xs) (d := d) (k := k) (by rw [HN.out]; exact hk) HL.out (.inr (by rw [List.getD_eq_getElem?_getD]; exact ⟨by omega, fun h => by rw [h] at heq; simp at heq⟩))
      refine ⟨v2, rfl, ?_, Y.out.2⟩
      rw [hw, setAt_len (by rw [HN.out]; exact hk), HN.out]; exact Y.out.1
    · have hkn : ¬ k < n := by assumption
      go_ret
      have hw := withD_new (xs := xs) (d := d) (k := k) (by rw [HN.out]; exact hk) HL.out (.inl (by rw [HN.out]; omega))
      refine ⟨v2, rfl, ?_, Y.out.2⟩
      rw [hw, setAt_len (by rw [HN.out]; exact hk), HN.out]; exact Y.out.1

set_option maxHeartbeats 4000000 in
set_option maxRecDepth 100000 in
theorem wd_empty (A : Option Addr) (c : Nat) (d : Int) (w : World)
    (hclone : Calls Try.prog 50 #[.slice A 0 c] w fun e w' => ∃ v', e = .returned v' ∧ w'.ownsRow w.heap.size 3 1 v' 0 [] ∧ Below w.heap.size w w') :
    Calls Try.prog 34 #[.slice A 0 c, .int .i64 d] w (WLeft w [] d) := by
  go_enter Try.func34, Try.ntmps34
  go_wp2
  go_loop [5] (fun k => k = .int .i64 0) (fun _ => 0)
  case atStart => rfl
  case round =>
    subst hrel
    go_wp2_with (first
      | (go_at_call 50; refine hclone.mono ?_; rintro e w1 ⟨v1, rfl, hown, hbel⟩
         have X : Aside (w1.ownsRow w.heap.size 3 1 v1 0 [] ∧ Below w.heap.size w w1) := ⟨hown, hbel⟩
         clear hown hbel)
      | (go_at_call 57; refine (ins_row w.heap.size 0 0 v1 [] d w _ w1.heap.size 1 (Nat.le_refl _) rfl (own_alloc _ X.out.1) (X.out.2.alloc X.out.2.size _) (Nat.le_trans X.out.2.size (by simp)) (new_at w1 _) (vb_ne X.out.1) (by omega)).mono ?_; rintro e w2 ⟨v2, rfl, hown2, hbel2⟩
         have Y : Aside (w2.ownsRow w.heap.size 3 1 v2 1 [.int .i64 d] ∧ Below w.heap.size w w2) := ⟨hown2, hbel2⟩
         clear hown2 hbel2))
    all_goals go_ret
    exact ⟨v2, rfl, Y.out.1, Y.out.2⟩

theorem withDigest_is [Go.Sh.Laid] : Go.Sh.Contract Try.prog 34 { params := [.val false (.slice 3 (.int .i64)), .val false (.int .i64)], res := [.row 3 (.int .i64) true] } (fun a => Go.Sh.N.ite (Go.Sh.N.len a.1 * 8 ≤ 140737488355320) (some (Go.Sh.N.withD a.1 a.2)) none) :=
  Go.Sh.ext_rowOf (E := 3) Go.Sh.N.withD ⟨Try.f34, Try.func34, by kernel_rfl, by kernel_rfl⟩
    (fun b off c zs d w h1 h2 => wd_any b off zs.length c zs d w rfl h1 h2 ((Any.slices_Clone_int Try.laysClone b off zs.length c zs w (Nat.le_refl _) (by omega) h2).mono fun e w' ⟨v', e1, e2, _, e3⟩ => ⟨v', e1, by rw [List.take_length] at e2; exact e2, e3⟩))
    (fun A c d w => by
      cases A with
      | none => exact wd_empty none c d w ((Any.slices_Clone_int_nil Try.laysClone 0 c w).mono fun e w' ⟨e1, e2⟩ => ⟨_, e1, by rw [e2]; exact World.ownsRow_nil _ _ _ _, by rw [e2]; exact Below.refl _ _⟩)
      | some a => exact wd_empty (some a) c d w ((Any.slices_Clone_int_zero Try.laysClone a c w).mono fun e w' ⟨v', e1, e2, _, e3⟩ => ⟨v', e1, e2, e3⟩))
end Go.Proofs.Ytekclbjiifiahab.Ex

