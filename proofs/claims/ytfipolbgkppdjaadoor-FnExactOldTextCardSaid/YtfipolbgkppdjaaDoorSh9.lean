/- The evaluator and its soundness, part 9: a function of the program does what its native form tells. -/
import Derived.Test.YtfipolbgkppdjaaDoorSh8
import Derived.Sort.Row
import Derived.Sort.Grow
import Derived.Lib.SlicesCompact
import Derived.Lib.RowBridge
import Derived.Laws.AppendOwn
import Derived.Below
import Derived.Lib.ItoaNum
import Derived.Lib.IndexMore
import Derived.Lib.Strings
import Derived.Lib.Join
set_option linter.unusedVariables false
set_option linter.unusedSimpArgs false
namespace Go.Sh
open Go Go.RowKit Go.Sort

/-! ## Functions of the library whose contracts the shelf holds -/
theorem ints_of : ∀ {css : List (List Value)} {xs : List Int} {bss : List (List Nat)} {w : World} {S : Nat → Prop}, All3 (El w S true (.int .i64)) css xs bss → css = xs.map (fun x => [Value.int .i64 x]) ∧ bss = xs.map fun _ => []
  | [], [], [], _, _, _ => ⟨rfl, rfl⟩
  | c :: css, x :: xs, b :: bss, w, S, h => by
    obtain ⟨h1, h2⟩ := h
    obtain ⟨r1, r2⟩ := ints_of h2
    have h1 : c = [Value.int .i64 x] ∧ b = [] := h1
    rw [r1, r2, h1.1, h1.2]
    exact ⟨rfl, rfl⟩
  | [], [], _ :: _, _, _, h => h.elim
  | [], _ :: _, _, _, _, h => h.elim
  | _ :: _, [], _, _, _, h => h.elim
  | _ :: _, _ :: _, [], _, _, h => h.elim
theorem of_ints {w : World} {S : Nat → Prop} : ∀ {xs : List Int}, All3 (El w S true (.int .i64)) (xs.map fun x => [Value.int .i64 x]) xs (xs.map fun _ => [])
  | [] => trivial
  | x :: xs => ⟨⟨rfl, rfl⟩, of_ints⟩
theorem flat_ints : ∀ {xs : List Int}, (xs.map fun x => [Value.int .i64 x]).flatten = xs.map (Value.int .i64)
  | [] => rfl
  | x :: xs => by simp [flat_ints (xs := xs)]
theorem flat_nils : ∀ {xs : List Int}, (xs.map fun _ => ([] : List Nat)).flatten = []
  | [] => rfl
  | x :: xs => by simp [flat_nils (xs := xs)]

theorem grow_heap {w : World} {os : Array Obj} {b : Nat} (h : b < w.heap.size) : (grow w os).heap[b]? = w.heap[b]? := by
  unfold grow; exact Array.getElem?_append_left h
theorem putRow_heap {w : World} {g off b : Nat} {d : Array Int} : (putRow (Value.int .i64) w g off d).heap[b]? = if g = b then (w.heap[b]?).map (onCells (putCells (Value.int .i64) off d)) else w.heap[b]? := by
  unfold putRow mapBlock
  rw [Array.getElem?_modify]

/-- slices.Sort of ints -/
theorem ext_sort [Laid] {P : Program} {f : FuncId} {E : TypeId} (hent : Enterable P f)
    (h1 : ∀ (blk off cap : Nat) (zs : List Int) (w : World), Holds (Value.int .i64) w blk off zs.toArray → blk < w.heap.size → zs.length < 4611686018427387904 →
      Calls P f #[.slice (some ⟨blk, off, none⟩) zs.length cap] w fun e w' => e = .returned (.tuple #[]) ∧ ∃ n os, w' = grow (putRow (Value.int .i64) (Sort.ahead w n) blk off (zs.mergeSort fun x y => decide (x ≤ y)).toArray) os)
    (h0 : ∀ (p : Option Addr) (cap : Nat) (w : World), Calls P f #[.slice p 0 cap] w fun e w' => e = .returned (.tuple #[]) ∧ w' = w) :
    Contract P f { params := [.io E (.int .i64)], res := [] } (fun xs => N.ite (N.len xs < 4611686018427387904) (some (N.sorted xs)) none) := by
  refine ⟨hent, fun a out w S lent cx vals hF hS h hv => ?_⟩
  have hF : N.ite (N.len (show List Int from a) < 4611686018427387904) (some (N.sorted a)) none = some out := hF
  unfold N.ite at hF
  split at hF
  case isFalse => cases hF
  rename_i hlt
  have hlt : (show List Int from a).length < 4611686018427387904 := by unfold N.len at hlt; omega
  simp only [Option.some.injEq] at hF
  match vals, hv with
  | [v], hv =>
    obtain ⟨⟨hv1, _⟩, _⟩ := hv
    have hob : ObR cx w (cx.μ 0) (.vec E (.int .i64) true 0 a) := h.ob 0 _ rfl
    obtain ⟨hver, hlen, hes, hrow⟩ := hob
    rcases hrow with ⟨ha, ⟨A, hA⟩, hf⟩ | ⟨g, cap, cur, css, bss, e1, e2, e3, e4, e5, e6, e7, e8⟩
    · have ha : (show List Int from a) = [] := ha
      have ho : (show List Int from out) = [] := by rw [← hF]; show N.sorted a = []; rw [show (a : List Int) = [] from ha]; simp [N.sorted]
      show Calls P f #[v] w _
      rw [hv1, hA]
      refine (h0 A 0 w).mono fun e w' he => ?_
      obtain ⟨rfl, rfl⟩ := he
      refine ⟨cx, ⟨[], rfl, trivial⟩, ?_, fun _ _ => rfl⟩
      have e : (show List Int from out) = a := ho.trans ha.symm
      have : heapOf (endOf [.io E (.int .i64)] (show List Int from out) ++ []) = heapOf (initOf 0 [.io E (.int .i64)] (show List Int from a)).2 := by rw [e]; rfl
      exact this ▸ h
    · obtain ⟨hcs, hbs⟩ := ints_of e8
      have hgs : g < w.heap.size := by
        false_or_by_contra
        rw [Array.getElem?_eq_none (by omega)] at e2
        cases e2
      have hcur : cur.toList.take (show List Int from a).length = (show List Int from a).map (Value.int .i64) := by
        have := e6
        rw [hcs, flat_ints] at this
        rw [← this]
        show _ = List.take ((show List Int from a).length * 1) _
        rw [Nat.mul_one]
      have hfoot : (cx.μ 0).foot = [g] := by rw [e7, hbs, flat_nils]
      have hh : Holds (Value.int .i64) w g 0 (show List Int from a).toArray := by
        intro j hj
        have hj : j < (show List Int from a).length := by simpa using hj
        constructor
        · unfold World.cell?
          simp only [e2, Option.isSome_none, Bool.false_eq_true, if_false, Nat.zero_add]
          have := congrArg (fun l => l[j]?) hcur
          simp only [List.getElem?_take, hj, if_true, List.getElem?_map] at this
          rw [← Array.getElem?_toList, this]
          simp [hj]
        · unfold World.frozen?
          simp [e2]
      show Calls P f #[v] w _
      rw [hv1, e1]
      refine (h1 g 0 cap a w hh hgs hlt).mono fun e w' he => ?_
      obtain ⟨rfl, n, os, rfl⟩ := he
      have ho : (show List Int from out) = (show List Int from a).mergeSort fun x y => decide (x ≤ y) := hF.symm
      have hol : (show List Int from out).length = (show List Int from a).length := by rw [ho, List.length_mergeSort]
      have hsz : ∀ os, (grow (putRow (Value.int .i64) (Sort.ahead w n) g 0 ((show List Int from a).mergeSort fun x y => decide (x ≤ y)).toArray) os).heap.size = w.heap.size + os.size := fun os => by
        simp [grow, putRow, mapBlock, Sort.ahead]
      have hother : ∀ b, b < w.heap.size → b ≠ g → (grow (putRow (Value.int .i64) (Sort.ahead w n) g 0 ((show List Int from a).mergeSort fun x y => decide (x ≤ y)).toArray) os).heap[b]? = w.heap[b]? := fun b hb hne => by
        rw [grow_heap (by simpa [putRow, mapBlock, Sort.ahead] using hb), putRow_heap, if_neg (Ne.symm hne)]; rfl
      have hat : (grow (putRow (Value.int .i64) (Sort.ahead w n) g 0 ((show List Int from a).mergeSort fun x y => decide (x ≤ y)).toArray) os).heap[g]? = some (.cells (putCells (Value.int .i64) 0 (show List Int from out).toArray cur) E (0, 0)) := by
        rw [grow_heap (by simpa [putRow, mapBlock, Sort.ahead] using hgs), putRow_heap, if_pos rfl, ho]
        show (w.heap[g]?).map _ = _
        rw [e2]; rfl
      refine ⟨cx, ⟨[], rfl, trivial⟩, ?_, fun _ _ => rfl⟩
      have hmine := h.mine 0 (.vec E (.int .i64) true 0 a) g rfl (by rw [hfoot]; simp)
      refine ⟨fun m o hm => ?_, fun m o hm => ?_, fun m hm => ?_, fun m m' o o' hm hm' hne => ?_, fun m o hm => ?_, fun m o b hm hb => ?_, fun b hb => ?_, h.sg, h.os, h.tape, h.output, ?_, fun b hb hl => ?_, h.laid⟩
      · cases m with
        | succ m => cases hm
        | zero =>
          have hm : Ob.vec E (.int .i64) true 0 (show List Int from out) = o := Option.some.inj (show some (Ob.vec E (.int .i64) true 0 (show List Int from out)) = some o from hm)
          subst hm
          refine ⟨hver, by rw [hlen, hol], hes, .inr ⟨g, cap, _, (show List Int from out).map (fun x => [Value.int .i64 x]), (show List Int from out).map (fun _ => []), by rw [e1, hol], hat, by rw [hol]; exact e3, e4, by simp [putCells]; exact e5, ?_, by rw [hfoot, flat_nils], of_ints⟩⟩
          rw [flat_ints]
          apply List.ext_getElem?
          intro i
          show (List.take ((show List Int from out).length * 1) _)[i]? = _
          rw [Nat.mul_one, List.getElem?_take, List.getElem?_map]
          by_cases hi : i < (show List Int from out).length
          · have hic : i < cur.size := by
              have q1 : cur.size = cap * 1 := e5
              have q2 : (show List Int from a).length ≤ cap := e3
              rw [q1, Nat.mul_one]
              exact Nat.lt_of_lt_of_le hi (by rw [hol]; exact q2)
            simp [putCells, hi, hic]
          · simp [hi]
      · cases m with
        | succ m => cases hm
        | zero => exact Nat.one_pos
      · refine h.dead m ?_
        cases m with
        | succ m => rfl
        | zero => cases hm
      · cases m with
        | succ m => cases hm
        | zero => cases m' with
          | succ m => cases hm'
          | zero => exact absurd rfl hne
      · cases m with
        | succ m => cases hm
        | zero => exact h.nd 0 _ rfl
      · cases m with
        | succ m => cases hm
        | zero =>
          have := h.mine 0 _ b rfl hb
          exact ⟨this.1, Nat.lt_of_lt_of_le this.2.1 (by rw [hsz]; exact Nat.le_add_right _ _), this.2.2⟩
      · exact Nat.lt_of_lt_of_le (h.ss b hb) (by rw [hsz]; exact Nat.le_add_right _ _)
      · show w.heap.size ≤ _
        rw [hsz]; exact Nat.le_add_right _ _
      · have hne : b ≠ g := by
          rintro rfl
          rcases hmine.1 with h' | ⟨_, h'⟩
          · have : w.heap.size ≤ b := h'
            omega
          · exact hl h'
        exact hother b hb hne
end Go.Sh

namespace Go.Sh
open Go Go.RowKit

def N.uniq (xs : List Int) : List Int := Lib.compact (xs.mergeSort fun x y => decide (x ≤ y))
/-- a number set into an ascending row, ahead of the first one that is not less, unless it is there -/
def N.withD (xs : List Int) (d : Int) : List Int :=
  if xs[(xs.takeWhile fun x => decide (x < d)).length]? = some d then xs else xs.take (xs.takeWhile fun x => decide (x < d)).length ++ d :: xs.drop (xs.takeWhile fun x => decide (x < d)).length
/-- what is left without -1, ascending -/
def N.seen (f : List Int) : List Int := (f.filter fun x => !decide (x = -1)).mergeSort fun x y => decide (x ≤ y)
def N.provenAt (f : List Int) (k : Int) : Int := if 0 ≤ k ∧ k < ((N.seen f).length : Int) then (N.seen f).getD k.toNat 0 else -1
theorem uniq_nil : N.uniq [] = [] := by unfold N.uniq; simp [Lib.compact, Lib.compactUpTo]

/-- a row of ints that a call hands back -/
theorem final_ints [Laid] {w w' : World} {S lent : Nat → Prop} {cx : Cx} {E : TypeId} {v : Value} {res : List Int} (hS : cx.S = S) (h : RH ⟨w, S, lent, 0⟩ 0 (fun _ => none) cx w)
    (hown : w'.ownsRow w.heap.size E 1 v res.length (res.map (Value.int .i64))) (hb : Below w.heap.size w w') :
    ∃ cx', VR cx' w' (.lf (.ref 0)) v ∧ RH ⟨w, S, lent, 0⟩ 1 (heapOf [.vec E (.int .i64) true 0 res]) cx' w' := by
  have key : ∀ foot : List Nat, Row1 w' E 1 (El w' cx.S true (.int .i64)) v res foot → foot.Nodup → (∀ b ∈ foot, w.heap.size ≤ b ∧ b < w'.heap.size) → (∃ A l c, v = .slice A l c) → ∃ cx', VR cx' w' (.lf (.ref 0)) v ∧ RH ⟨w, S, lent, 0⟩ 1 (heapOf [.vec E (.int .i64) true 0 res]) cx' w' := fun foot hrow hnd hf hv => by
    refine ⟨cx.at 0 ⟨v, res.length, 1, 0, foot⟩, ⟨by rw [Cx.at_self], hv⟩, fun m o hm => ?_, fun m o hm => ?_, fun m hm => ?_, fun m m' o o' hm hm' hne => ?_, fun m o hm => ?_, fun m o b hm hbf => ?_, fun b hbs => ?_, h.sg, hb.os, hb.tape, hb.output, hb.size, fun b hlt _ => hb.block b hlt, h.laid⟩
    · cases m with
      | succ m => cases hm
      | zero =>
        have hm : Ob.vec E (.int .i64) true 0 res = o := Option.some.inj hm
        subst hm
        rw [Cx.at_self]
        exact ⟨rfl, rfl, rfl, hrow⟩
    · cases m with
      | succ m => cases hm
      | zero => exact Nat.one_pos
    · cases m with
      | zero => cases hm
      | succ m => rw [Cx.at_other _ _ _ _ (by omega)]; exact h.dead _ rfl
    · cases m with
      | succ m => cases hm
      | zero => cases m' with
        | succ m => cases hm'
        | zero => exact absurd rfl hne
    · cases m with
      | succ m => cases hm
      | zero => rw [Cx.at_self]; exact hnd
    · cases m with
      | succ m => cases hm
      | zero =>
        rw [Cx.at_self] at hbf
        obtain ⟨q1, q2⟩ := hf b hbf
        refine ⟨.inl q1, q2, fun hs => ?_⟩
        have := h.ss b hs
        omega
    · exact Nat.lt_of_lt_of_le (h.ss b hbs) hb.size
  rcases hown.2 with ⟨rfl, hn⟩ | ⟨g, cap, cur, rfl, hbase, hg, h1, h2, h3, h4⟩
  · have hr : res = [] := List.length_eq_zero_iff.1 hn
    exact key [] (.inl ⟨hr, ⟨none, rfl⟩, rfl⟩) List.nodup_nil (fun b hb => by cases hb) ⟨_, _, _, rfl⟩
  · have hlt : g < w'.heap.size := by
      false_or_by_contra
      rw [Array.getElem?_eq_none (by omega)] at hg
      cases hg
    refine key [g] (.inr ⟨g, cap, cur, res.map (fun x => [Value.int .i64 x]), res.map (fun _ => []), rfl, hg, h1, h2, h3, by rw [h4, flat_ints], by rw [flat_nils], of_ints⟩) (by simp) (fun b hb => ?_) ⟨_, _, _, rfl⟩
    simp only [List.mem_singleton] at hb
    subst hb
    exact ⟨hbase, hlt⟩

/-- numbers, ascending and each once -/
theorem ext_sorted [Laid] {P : Program} {f : FuncId} {E : TypeId} (hent : Enterable P f)
    (h1 : ∀ (b off n c : Nat) (zs : List Int) (w : World), n ≤ zs.length → n * 8 ≤ 140737488355328 → (∀ j, j < zs.length → w.cell? ⟨b, off + j, none⟩ = some (.int .i64 (zs.getD j 0))) →
      Calls P f #[.slice (some ⟨b, off, none⟩) n c] w fun e w' => ∃ v, e = .returned v ∧ w'.ownsRow w.heap.size E 1 v (N.uniq (zs.take n)).length ((N.uniq (zs.take n)).map (Value.int .i64)) ∧ Below w.heap.size w w')
    (hz : ∀ (a : Addr) (c : Nat) (w : World), Calls P f #[.slice (some a) 0 c] w fun e w' => ∃ v, e = .returned v ∧ w'.ownsRow w.heap.size E 1 v 0 [] ∧ Below w.heap.size w w')
    (h0 : ∀ (c : Nat) (w : World), Calls P f #[.slice none 0 c] w fun e w' => e = .returned (.slice none 0 0) ∧ w' = w) :
    Contract P f { params := [.val false (.slice E (.int .i64))], res := [.row E (.int .i64) true] } (fun xs => N.ite (N.len xs * 8 ≤ 140737488355328) (some (N.uniq xs)) none) := by
  refine ⟨hent, fun a out w S lent cx vals hF hS h hv => ?_⟩
  have hF : N.ite (N.len (show List Int from a) * 8 ≤ 140737488355328) (some (N.uniq a)) none = some out := hF
  unfold N.ite at hF
  split at hF
  case isFalse => cases hF
  rename_i hlt
  have hlt : (show List Int from a).length * 8 ≤ 140737488355328 := by unfold N.len at hlt; omega
  simp only [Option.some.injEq] at hF
  have hout : (show List Int from out) = N.uniq a := hF.symm
  match vals, hv with
  | [v], hv =>
    have hrd : Rd w cx.S (.slice E (.int .i64)) [v] (show List Int from a) := hv.1
    obtain ⟨A, cap, e1, hcap, hel⟩ := hrd
    simp only [List.cons.injEq, and_true] at e1
    subst e1
    have hh : RH ⟨w, S, lent, 0⟩ 0 (fun _ => none) cx w := by
      have : (fun _ => none : Heap) = heapOf (initOf 0 [.val false (.slice E (.int .i64))] (show List Int from a)).2 := by funext k; cases k <;> rfl
      rw [this]; exact h
    have fin : ∀ {e : Ending} {w' : World}, (∃ v, e = .returned v ∧ w'.ownsRow w.heap.size E 1 v (show List Int from out).length ((show List Int from out).map (Value.int .i64)) ∧ Below w.heap.size w w') → match e with
        | .returned v => Final ⟨w, S, lent, 0⟩ { params := [.val false (.slice E (.int .i64))], res := [.row E (.int .i64) true] } cx 0 out v w'
        | _ => False := fun {e w'} he => by
      obtain ⟨v, rfl, ho, hb⟩ := he
      obtain ⟨cx', g1, g2⟩ := final_ints (res := (show List Int from out)) hS hh ho hb
      exact ⟨cx', g1, g2, fun k hk => absurd hk (Nat.not_lt_zero k)⟩
    by_cases hnil : (show List Int from a) = []
    · have ho : (show List Int from out) = [] := by rw [hout, show (a : List Int) = [] from hnil, uniq_nil]
      have hl : (show List Int from a).length = 0 := by rw [hnil]; rfl
      show Calls P f #[.slice A (show List Int from a).length cap] w _
      rw [hl]
      cases A with
      | none =>
        refine (h0 cap w).mono fun e w' he => fin ?_
        obtain ⟨rfl, rfl⟩ := he
        exact ⟨_, rfl, by rw [ho]; exact ⟨rfl, .inl ⟨rfl, rfl⟩⟩, Below.refl _ _⟩
      | some ad =>
        refine (hz ad cap w).mono fun e w' he => fin ?_
        rw [ho]; exact he
    · have hpos : 0 < (show List Int from a).length := List.length_pos_iff.2 hnil
      obtain ⟨b, o, ci, rfl, _, _, _⟩ := hel 0 hpos
      refine (h1 b o (show List Int from a).length cap a w (Nat.le_refl _) hlt fun j hj => ?_).mono fun e w' he => fin ?_
      · obtain ⟨b', o', cj, e2, _, hcell, hr⟩ := hel j hj
        simp only [Option.some.injEq, Addr.mk.injEq, and_true] at e2
        obtain ⟨rfl, rfl⟩ := e2
        have hr : cj = [Value.int .i64 (show List Int from a)[j]] := hr
        have := hcell 0 (.int .i64 (show List Int from a)[j]) (by rw [hr]; rfl)
        have e3 : o + j * (Ty.int .i64).size + 0 = o + j := by show o + j * 1 + 0 = o + j; omega
        rw [e3] at this
        rw [this]
        congr 2
        simp [hj]
      · obtain ⟨v, q1, q2, q3⟩ := he
        rw [List.take_length] at q2
        exact ⟨v, q1, by rw [hout]; exact q2, q3⟩
end Go.Sh

namespace Go.Sh
open Go Go.RowKit

/-- a row of ints and an int, to a new row of ints -/
theorem ext_rowOf [Laid] {P : Program} {f : FuncId} {E : TypeId} (F : List Int → Int → List Int) (hent : Enterable P f)
    (h1 : ∀ (b off c : Nat) (zs : List Int) (d : Int) (w : World), (zs.length + 1) * 8 ≤ 140737488355328 → (∀ j, j < zs.length → w.cell? ⟨b, off + j, none⟩ = some (.int .i64 (zs.getD j 0))) →
      Calls P f #[.slice (some ⟨b, off, none⟩) zs.length c, .int .i64 d] w fun e w' => ∃ v, e = .returned v ∧ w'.ownsRow w.heap.size E 1 v (F zs d).length ((F zs d).map (Value.int .i64)) ∧ Below w.heap.size w w')
    (h0 : ∀ (A : Option Addr) (c : Nat) (d : Int) (w : World), Calls P f #[.slice A 0 c, .int .i64 d] w fun e w' => ∃ v, e = .returned v ∧ w'.ownsRow w.heap.size E 1 v (F [] d).length ((F [] d).map (Value.int .i64)) ∧ Below w.heap.size w w') :
    Contract P f { params := [.val false (.slice E (.int .i64)), .val false (.int .i64)], res := [.row E (.int .i64) true] } (fun a => N.ite (N.len a.1 * 8 ≤ 140737488355320) (some (F a.1 a.2)) none) := by
  refine ⟨hent, fun a out w S lent cx vals hF hS h hv => ?_⟩
  obtain ⟨zs, d⟩ := a
  have hF : N.ite (N.len (show List Int from zs) * 8 ≤ 140737488355320) (some (F zs d)) none = some out := hF
  unfold N.ite at hF
  split at hF
  case isFalse => cases hF
  rename_i hlt
  have hlt : ((show List Int from zs).length + 1) * 8 ≤ 140737488355328 := by unfold N.len at hlt; omega
  simp only [Option.some.injEq] at hF
  have hout : (show List Int from out) = F zs d := hF.symm
  match vals, hv with
  | [v, u], hv =>
    have hrd : Rd w cx.S (.slice E (.int .i64)) [v] (show List Int from zs) := hv.1
    have hu : u = .int .i64 d := hv.2.1
    subst hu
    obtain ⟨A, cap, e1, hcap, hel⟩ := hrd
    simp only [List.cons.injEq, and_true] at e1
    subst e1
    have hh : RH ⟨w, S, lent, 0⟩ 0 (fun _ => none) cx w := by
      have : (fun _ => none : Heap) = heapOf (initOf 0 [.val false (.slice E (.int .i64)), .val false (.int .i64)] ((show List Int from zs), d)).2 := by funext k; cases k <;> rfl
      rw [this]; exact h
    have fin : ∀ {e : Ending} {w' : World}, (∃ v, e = .returned v ∧ w'.ownsRow w.heap.size E 1 v (show List Int from out).length ((show List Int from out).map (Value.int .i64)) ∧ Below w.heap.size w w') → match e with
        | .returned v => Final ⟨w, S, lent, 0⟩ { params := [.val false (.slice E (.int .i64)), .val false (.int .i64)], res := [.row E (.int .i64) true] } cx 0 out v w'
        | _ => False := fun {e w'} he => by
      obtain ⟨v, rfl, ho, hb⟩ := he
      obtain ⟨cx', g1, g2⟩ := final_ints (res := (show List Int from out)) hS hh ho hb
      exact ⟨cx', g1, g2, fun k hk => absurd hk (Nat.not_lt_zero k)⟩
    by_cases hnil : (show List Int from zs) = []
    · have hl : (show List Int from zs).length = 0 := by rw [hnil]; rfl
      show Calls P f #[.slice A (show List Int from zs).length cap, .int .i64 d] w _
      rw [hl]
      refine (h0 A cap d w).mono fun e w' he => fin ?_
      rw [hout, show (zs : List Int) = [] from hnil]; exact he
    · have hpos : 0 < (show List Int from zs).length := List.length_pos_iff.2 hnil
      obtain ⟨b, o, ci, rfl, _, _, _⟩ := hel 0 hpos
      refine (h1 b o cap zs d w hlt fun j hj => ?_).mono fun e w' he => fin (by rw [hout]; exact he)
      obtain ⟨b', o', cj, e2, _, hcell, hr⟩ := hel j hj
      simp only [Option.some.injEq, Addr.mk.injEq, and_true] at e2
      obtain ⟨rfl, rfl⟩ := e2
      have hr : cj = [Value.int .i64 (show List Int from zs)[j]] := hr
      have := hcell 0 (.int .i64 (show List Int from zs)[j]) (by rw [hr]; rfl)
      have e3 : o + j * (Ty.int .i64).size + 0 = o + j := by show o + j * 1 + 0 = o + j; omega
      rw [e3] at this
      have e4 : ∀ (l : List Int) (hj : j < l.length), l.getD j 0 = l[j] := fun l hj => by simp [hj]
      refine this.trans ?_
      rw [e4 zs hj]

/-- a row of ints that a call has made -/
def RowAt (w w' : World) (E : TypeId) (v : Value) (xs : List Int) : Prop :=
  (xs = [] ∧ ∃ A, v = .slice A 0 0) ∨ ∃ g cap cur, v = .slice (some ⟨g, 0, none⟩) xs.length cap ∧ w.heap.size ≤ g ∧ w'.heap[g]? = some (.cells cur E (0, 0)) ∧ xs.length ≤ cap ∧ cap ≤ maxLen ∧ cur.size = cap ∧ cur.toList.take xs.length = xs.map (Value.int .i64)

/-- nothing of the caller's has changed -/
theorem rh_below [Laid] {w w' : World} {S lent : Nat → Prop} {cx : Cx} (h : RH ⟨w, S, lent, 0⟩ 0 (fun _ => none) cx w) (hb : Below w.heap.size w w') : RH ⟨w, S, lent, 0⟩ 0 (fun _ => none) cx w' :=
  ⟨fun n o hn => by (cases hn), fun n o hn => by (cases hn), h.dead, fun n m o o' hn => by (cases hn), fun n o hn => by (cases hn), fun n o b hn => by (cases hn), fun b hs => Nat.lt_of_lt_of_le (h.ss b hs) hb.size, h.sg, hb.os, hb.tape, hb.output, hb.size, fun b hlt _ => hb.block b hlt, h.laid⟩

theorem ints_of_d : ∀ {d : Bool} {css : List (List Value)} {xs : List Int} {bss : List (List Nat)} {w : World} {S : Nat → Prop}, All3 (El w S d (.int .i64)) css xs bss → css = xs.map (fun x => [Value.int .i64 x]) ∧ bss = xs.map fun _ => []
  | _, [], [], [], _, _, _ => ⟨rfl, rfl⟩
  | d, c :: css, x :: xs, b :: bss, w, S, h => by
    obtain ⟨h1, h2⟩ := h
    obtain ⟨r1, r2⟩ := ints_of_d h2
    have h3 : c = [Value.int .i64 x] ∧ b = [] := by
      cases d with
      | true => exact h1
      | false => exact h1
    rw [r1, r2, h3.1, h3.2]
    exact ⟨rfl, rfl⟩
  | _, [], [], _ :: _, _, _, h => h.elim
  | _, [], _ :: _, _, _, _, h => h.elim
  | _, _ :: _, [], _, _, _, h => h.elim
  | _, _ :: _, _ :: _, [], _, _, h => h.elim

/-- a function that calls one that makes a row of ints, and gives back an int -/
theorem ext_after [Laid] {P : Program} {f g : FuncId} {E : TypeId} {T : Ty} {dp : Bool} {F : ({ params := [.val false (.slice E (.int .i64)), .val false T, .val false (.int .i64)], res := [.row E (.int .i64) dp] } : Sig).args → Option ({ params := [.val false (.slice E (.int .i64)), .val false T, .val false (.int .i64)], res := [.row E (.int .i64) dp] } : Sig).outs}
    (hc : Contract P g { params := [.val false (.slice E (.int .i64)), .val false T, .val false (.int .i64)], res := [.row E (.int .i64) dp] } F) (hent : Enterable P f) (Fin : List Int → Int → Int)
    (h1 : ∀ (v1 v2 v3 : Value) (k : Int) (w : World) (xs : List Int), xs.length * 8 ≤ 140737488355328 → (Calls P g #[v1, v2, v3] w fun e w' => ∃ v, e = .returned v ∧ RowAt w w' E v xs ∧ Below w.heap.size w w') →
      Calls P f #[v1, v2, v3, .int .i64 k] w fun e w' => e = .returned (.int .i64 (Fin xs k)) ∧ Below w.heap.size w w') :
    Contract P f { params := [.val false (.slice E (.int .i64)), .val false T, .val false (.int .i64), .val false (.int .i64)], res := [.val false (.int .i64)] } (fun a => N.bind (F (a.1, a.2.1, a.2.2.1)) fun r1 => N.ite (N.len (show List Int from r1) * 8 ≤ 140737488355328) (some (Fin r1 a.2.2.2)) none) := by
  refine ⟨hent, fun a out w S lent cx vals hF hS h hv => ?_⟩
  obtain ⟨ks, l, d, k⟩ := a
  have hF : N.bind (F (ks, l, d)) (fun r1 => N.ite (N.len (show List Int from r1) * 8 ≤ 140737488355328) (some (Fin r1 k)) none) = some out := hF
  cases hr : F (ks, l, d) with
  | none => rw [hr] at hF; cases hF
  | some r1 =>
    rw [hr] at hF
    have hF : N.ite (N.len (show List Int from r1) * 8 ≤ 140737488355328) (some (Fin r1 k)) none = some out := hF
    unfold N.ite at hF
    split at hF
    case isFalse => cases hF
    rename_i hlt
    have hlt : (show List Int from r1).length * 8 ≤ 140737488355328 := by unfold N.len at hlt; omega
    simp only [Option.some.injEq] at hF
    have hout : (show Int from out) = Fin r1 k := hF.symm
    match vals, hv with
    | [v1, v2, v3, v4], hv =>
      have hv4 : v4 = .int .i64 k := hv.2.2.2.1
      subst hv4
      have hh : RH ⟨w, S, lent, 0⟩ 0 (fun _ => none) cx w := by
        have : (fun _ => none : Heap) = heapOf (initOf 0 [.val false (.slice E (.int .i64)), .val false T, .val false (.int .i64), .val false (.int .i64)] (ks, l, d, k)).2 := by funext k; cases k <;> rfl
        rw [this]; exact h
      have hh2 : RH ⟨w, S, fun _ => False, 0⟩ 0 (heapOf []) cx w :=
        ⟨fun n o hn => by (cases hn), fun n o hn => by (cases hn), fun n _ => hh.dead n rfl, fun n m o o' hn => by (cases hn), fun n o hn => by (cases hn), fun n o b hn => by (cases hn), hh.ss, hh.sg, rfl, rfl, rfl, Nat.le_refl _, fun _ _ _ => rfl, hh.laid.1, fun _ _ h => h⟩
      have hcall := hc.2 (ks, l, d) r1 w S (fun _ => False) cx [v1, v2, v3] hr hS hh2 ⟨hv.1, hv.2.1, hv.2.2.1, trivial⟩
      refine (h1 v1 v2 v3 k w r1 hlt (hcall.mono fun e w' he => ?_)).mono fun e w' he => ?_
      · cases e with
        | panicked c => exact he.elim
        | outgrown => exact he.elim
        | returned v =>
          obtain ⟨cx', hv', hr', _⟩ := he
          have hv' : v = (cx'.μ 0).v := hv'.1
          have hob : ObR cx' w' (cx'.μ 0) (.vec E (.int .i64) dp 0 (show List Int from r1)) := hr'.ob 0 _ rfl
          obtain ⟨_, _, _, hrow⟩ := hob
          refine ⟨v, rfl, ?_, hr'.os, hr'.tape, hr'.output, hr'.size, fun b hb => hr'.block b hb fun h => h⟩
          rw [hv']
          rcases hrow with ⟨ha, ⟨A, hA⟩, _⟩ | ⟨g', cap, cur, css, bss, e1, e2, e3, e4, e5, e6, e7, e8⟩
          · exact .inl ⟨ha, A, hA⟩
          · obtain ⟨hcs, hbs⟩ := ints_of_d e8
            have hfoot : (cx'.μ 0).foot = [g'] := by rw [e7, hbs, flat_nils]
            have hm := (hr'.mine 0 (.vec E (.int .i64) dp 0 (show List Int from r1)) g' rfl (by rw [hfoot]; simp)).1
            have hg : w.heap.size ≤ g' := by
              rcases hm with hm | ⟨_, hm⟩
              · exact hm
              · exact hm.elim
            refine .inr ⟨g', cap, cur, e1, hg, e2, e3, e4, ?_, ?_⟩
            · have : cur.size = cap * 1 := e5
              omega
            · have := e6
              rw [hcs, flat_ints] at this
              rw [← this]
              show _ = List.take ((show List Int from r1).length * 1) _
              rw [Nat.mul_one]
      · obtain ⟨rfl, hb⟩ := he
        refine ⟨cx, ?_, ?_, fun k hk => absurd hk (Nat.not_lt_zero k)⟩
        · show VR cx w' (.lf (.int .i64 (show Int from out))) _
          rw [hout]; rfl
        · have : heapOf (endOf [.val false (.slice E (.int .i64)), .val false T, .val false (.int .i64), .val false (.int .i64)] (ioOf [.val false (.int .i64)] out) ++ (resOf 0 [.val false (.int .i64)] out).2) = (fun _ => none : Heap) := by funext k; cases k <;> rfl
          have := rh_below hh hb
          exact this
end Go.Sh

namespace Go.Sh
open Go Go.RowKit

def N.itoa (n : Int) : Option ByteArray := if -9223372036854775808 ≤ n ∧ n ≤ 9223372036854775807 then some ⟨(Lib.itoa n).toArray⟩ else none
def N.cutPrefix (s p : ByteArray) : Option (ByteArray × Bool) := some (⟨(Lib.trimPrefix s.data.toList p.data.toList).toArray⟩, Lib.hasPrefix s.data.toList p.data.toList)
def N.cutAt (s p : ByteArray) : Option (ByteArray × ByteArray × Bool) :=
  if s.size < 4294967281 then some (⟨(Lib.cut s.data.toList p.data.toList).1.toArray⟩, ⟨(Lib.cut s.data.toList p.data.toList).2.1.toArray⟩, (Lib.cut s.data.toList p.data.toList).2.2) else none

theorem rh_none [Laid] {w : World} {S lent : Nat → Prop} {cx : Cx} {k : Nat} {H : Heap} (h : RH ⟨w, S, lent, k⟩ k H cx w) (hk : k = 0) (hH : ∀ n, H n = none) : RH ⟨w, S, lent, 0⟩ 0 (fun _ => none) cx w := by
  subst hk
  have : (fun _ => none : Heap) = H := by funext n; exact (hH n).symm
  rw [this]; exact h

theorem ext_itoa [Laid] {P : Program} {f : FuncId} (hent : Enterable P f)
    (h1 : ∀ (n : Int) (w : World), Laid.ok w → -9223372036854775808 ≤ n → n ≤ 9223372036854775807 → Calls P f #[.int .i64 n] w fun e w' => e = .returned (.string ⟨(Lib.itoa n).toArray⟩) ∧ Below w.heap.size w w') :
    Contract P f { params := [.val false (.int .i64)], res := [.val false .str] } (fun n => N.itoa n) := by
  refine ⟨hent, fun a out w S lent cx vals hF hS h hv => ?_⟩
  have hF : N.itoa (show Int from a) = some (show ByteArray from out) := hF
  unfold N.itoa at hF
  split at hF
  case isFalse => cases hF
  rename_i hn
  simp only [Option.some.injEq] at hF
  match vals, hv with
  | [v], hv =>
    have hv1 : v = .int .i64 (show Int from a) := hv.1
    subst hv1
    have hh := rh_none h rfl fun n => by cases n <;> rfl
    refine (h1 _ w hh.now hn.1 hn.2).mono fun e w' he => ?_
    obtain ⟨rfl, hb⟩ := he
    refine ⟨cx, ?_, rh_below hh hb, fun k hk => absurd hk (Nat.not_lt_zero k)⟩
    show VR cx w' (.lf (.str (show ByteArray from out))) _
    rw [← hF]; rfl

theorem ext_cutPrefix [Laid] {P : Program} {f : FuncId} (hent : Enterable P f)
    (h1 : ∀ (s p : ByteArray) (w : World), Calls P f #[.string s, .string p] w fun e w' => e = .returned (.tuple #[.string ⟨(Lib.trimPrefix s.data.toList p.data.toList).toArray⟩, .bool (Lib.hasPrefix s.data.toList p.data.toList)]) ∧ w' = w) :
    Contract P f { params := [.val false .str, .val false .str], res := [.val false .str, .val false .bool] } (fun a => N.cutPrefix a.1 a.2) := by
  refine ⟨hent, fun a out w S lent cx vals hF hS h hv => ?_⟩
  obtain ⟨s, p⟩ := a
  obtain ⟨o1, o2⟩ := out
  have hF : N.cutPrefix s p = some (o1, o2) := hF
  unfold N.cutPrefix at hF
  simp only [Option.some.injEq, Prod.mk.injEq] at hF
  match vals, hv with
  | [v, u], hv =>
    have hv1 : v = .string s := hv.1
    have hv2 : u = .string p := hv.2.1
    subst hv1 hv2
    have hh := rh_none h rfl fun n => by cases n <;> rfl
    refine (h1 _ _ w).mono fun e w' he => ?_
    obtain ⟨rfl, rfl⟩ := he
    refine ⟨cx, ?_, rh_below hh (Below.refl _ _), fun k hk => absurd hk (Nat.not_lt_zero k)⟩
    show VR cx w' (.tup [(false, [.str o1]), (false, [.bool o2])]) _
    exact ⟨_, rfl, ⟨_, rfl, by rw [← hF.1]; rfl⟩, ⟨_, rfl, by rw [← hF.2]; rfl⟩, trivial⟩

theorem ext_cutAt [Laid] {P : Program} {f : FuncId} (hent : Enterable P f)
    (h1 : ∀ (s p : ByteArray) (w : World), Laid.ok w → s.size < 4294967281 → Calls P f #[.string s, .string p] w fun e w' => e = .returned (.tuple #[.string ⟨(Lib.cut s.data.toList p.data.toList).1.toArray⟩, .string ⟨(Lib.cut s.data.toList p.data.toList).2.1.toArray⟩, .bool (Lib.cut s.data.toList p.data.toList).2.2]) ∧ Below w.heap.size w w') :
    Contract P f { params := [.val false .str, .val false .str], res := [.val false .str, .val false .str, .val false .bool] } (fun a => N.cutAt a.1 a.2) := by
  refine ⟨hent, fun a out w S lent cx vals hF hS h hv => ?_⟩
  obtain ⟨s, p⟩ := a
  obtain ⟨o1, o2, o3⟩ := out
  have hF : N.cutAt s p = some (o1, o2, o3) := hF
  unfold N.cutAt at hF
  split at hF
  case isFalse => cases hF
  rename_i hn
  simp only [Option.some.injEq, Prod.mk.injEq] at hF
  match vals, hv with
  | [v, u], hv =>
    have hv1 : v = .string s := hv.1
    have hv2 : u = .string p := hv.2.1
    subst hv1 hv2
    have hh := rh_none h rfl fun n => by cases n <;> rfl
    refine (h1 _ _ w hh.now hn).mono fun e w' he => ?_
    obtain ⟨rfl, hb⟩ := he
    refine ⟨cx, ?_, rh_below hh hb, fun k hk => absurd hk (Nat.not_lt_zero k)⟩
    show VR cx w' (.tup [(false, [.str o1]), (false, [.str o2]), (false, [.bool o3])]) _
    exact ⟨_, rfl, ⟨_, rfl, by rw [← hF.1]; rfl⟩, ⟨_, rfl, by rw [← hF.2.1]; rfl⟩, ⟨_, rfl, by rw [← hF.2.2]; rfl⟩, trivial⟩
end Go.Sh

namespace Go.Sh
open Go Go.RowKit

def N.joinS (xs : List ByteArray) (sep : ByteArray) : Option ByteArray :=
  if xs.length ≤ 140737488355328 ∧ (Lib.join (xs.map (·.data.toList)) sep.data.toList).length ≤ 140737488355328 then some ⟨(Lib.join (xs.map (·.data.toList)) sep.data.toList).toArray⟩ else none

theorem ext_join [Laid] {P : Program} {f : FuncId} {E : TypeId} (hent : Enterable P f)
    (h0 : ∀ (a : Option Addr) (c : Nat) (sep : ByteArray) (w : World), Calls P f #[.slice a 0 c, .string sep] w fun e w' => e = .returned (.string ⟨#[]⟩) ∧ w' = w)
    (h1 : ∀ (bk o c : Nat) (xs : List ByteArray) (sep : ByteArray) (w : World), (∀ (j : Nat) x, xs[j]? = some x → w.cell? ⟨bk, o + j, none⟩ = some (.string x)) → bk < w.heap.size → xs.length ≤ 140737488355328 → xs.length ≤ c →
      (Lib.join (xs.map (·.data.toList)) sep.data.toList).length ≤ 140737488355328 →
      Calls P f #[.slice (some ⟨bk, o, none⟩) xs.length c, .string sep] w fun e w' => e = .returned (.string ⟨(Lib.join (xs.map (·.data.toList)) sep.data.toList).toArray⟩) ∧ Below w.heap.size w w') :
    Contract P f { params := [.val false (.slice E .str), .val false .str], res := [.val false .str] } (fun a => N.joinS a.1 a.2) := by
  refine ⟨hent, fun a out w S lent cx vals hF hS h hv => ?_⟩
  obtain ⟨xs, sep⟩ := a
  have hF : N.joinS xs sep = some (show ByteArray from out) := hF
  unfold N.joinS at hF
  split at hF
  case isFalse => cases hF
  rename_i hn
  simp only [Option.some.injEq] at hF
  match vals, hv with
  | [v, u], hv =>
    have hrd : Rd w cx.S (.slice E .str) [v] (show List ByteArray from xs) := hv.1
    have hv2 : u = .string sep := hv.2.1
    subst hv2
    obtain ⟨A, cap, e1, hcap, hel⟩ := hrd
    simp only [List.cons.injEq, and_true] at e1
    subst e1
    have hh := rh_none h rfl fun n => by cases n <;> rfl
    have fin : ∀ {e : Ending} {w' : World}, (e = .returned (.string ⟨(Lib.join ((show List ByteArray from xs).map (·.data.toList)) sep.data.toList).toArray⟩) ∧ Below w.heap.size w w') → match e with
        | .returned v => Final ⟨w, S, lent, 0⟩ { params := [.val false (.slice E .str), .val false .str], res := [.val false .str] } cx 0 out v w'
        | _ => False := fun {e w'} he => by
      obtain ⟨rfl, hb⟩ := he
      refine ⟨cx, ?_, rh_below hh hb, fun k hk => absurd hk (Nat.not_lt_zero k)⟩
      show VR cx w' (.lf (.str (show ByteArray from out))) _
      rw [← hF]; rfl
    by_cases hnil : (show List ByteArray from xs) = []
    · have hl : (show List ByteArray from xs).length = 0 := by rw [hnil]; rfl
      show Calls P f #[.slice A (show List ByteArray from xs).length cap, .string sep] w _
      rw [hl]
      refine (h0 A cap sep w).mono fun e w' he => fin ?_
      obtain ⟨rfl, rfl⟩ := he
      rw [hnil]
      exact ⟨rfl, Below.refl _ _⟩
    · have hpos : 0 < (show List ByteArray from xs).length := List.length_pos_iff.2 hnil
      have hcells : ∀ {b o : Nat}, A = some ⟨b, o, none⟩ → ∀ (j : Nat) x, (show List ByteArray from xs)[j]? = some x → w.cell? ⟨b, o + j, none⟩ = some (.string x) := fun {b o} hA j x hx => by
        have hj : j < (show List ByteArray from xs).length := by
          false_or_by_contra
          rw [List.getElem?_eq_none (by omega)] at hx
          cases hx
        obtain ⟨b', o', cj, e2, _, hcell, hr⟩ := hel j hj
        rw [hA] at e2
        simp only [Option.some.injEq, Addr.mk.injEq, and_true] at e2
        obtain ⟨rfl, rfl⟩ := e2
        have hr : cj = [Value.string (show List ByteArray from xs)[j]] := hr
        have := hcell 0 (.string (show List ByteArray from xs)[j]) (by rw [hr]; rfl)
        have e3 : o + j * Ty.size .str + 0 = o + j := by show o + j * 1 + 0 = o + j; omega
        rw [e3] at this
        rw [List.getElem?_eq_getElem hj] at hx
        rw [← Option.some.inj hx]
        exact this
      obtain ⟨b, o, ci, hA, _, _, _⟩ := hel 0 hpos
      subst hA
      have hb : b < w.heap.size := by
        have := hcells rfl 0 _ (List.getElem?_eq_getElem hpos)
        false_or_by_contra
        rename_i hn2
        have h3 : w.heap[b]? = none := Array.getElem?_eq_none (by omega)
        simp [World.cell?, h3] at this
      exact (h1 b o cap xs sep w (hcells rfl) hb hn.1 (by first | exact hcap.1 | exact hcap | omega) hn.2).mono fun e w' he => fin he
end Go.Sh

