/- The evaluator and its soundness, part 9: a function of the program does what its native form tells. -/
import Derived.Test.YtfipolbgkppdjaaGreatDoorSh8
import Derived.Sort.Row
import Derived.Sort.Grow
import Derived.Lib.SlicesCompact
import Derived.Lib.RowBridge
import Derived.Laws.AppendOwn
import Derived.Below
import Derived.Lib.ItoaNum
import Derived.Lib.IndexMore
import Derived.Lib.Strings
import Derived.Lib.Join
set_option linter.unusedVariables false
set_option linter.unusedSimpArgs false
namespace Go.Sh
open Go Go.RowKit Go.Sort

/-! ## Functions of the library whose contracts the shelf holds -/
theorem ints_of : ∀ {css : List (List Value)} {xs : List Int} {bss : List (List Nat)} {w : World} {S : Nat → Prop}, All3 (El w S true (.int .i64)) css xs bss → css = xs.map (fun x => [Value.int .i64 x]) ∧ bss = xs.map fun _ => []
  | [], [], [], _, _, _ => ⟨rfl, rfl⟩
  | c :: css, x :: xs, b :: bss, w, S, h => by
    obtain ⟨h1, h2⟩ := h
    obtain ⟨r1, r2⟩ := ints_of h2
    have h1 : c = [Value.int .i64 x] ∧ b = [] := h1
    rw [r1, r2, h1.1, h1.2]
    exact ⟨rfl, rfl⟩
  | [], [], _ :: _, _, _, h => h.elim
  | [], _ :: _, _, _, _, h => h.elim
  | _ :: _, [], _, _, _, h => h.elim
  | _ :: _, _ :: _, [], _, _, h => h.elim
theorem of_ints {w : World} {S : Nat → Prop} : ∀ {xs : List Int}, All3 (El w S true (.int .i64)) (xs.map fun x => [Value.int .i64 x]) xs (xs.map fun _ => [])
  | [] => trivial
  | x :: xs => ⟨⟨rfl, rfl⟩, of_ints⟩
theorem flat_ints : ∀ {xs : List Int}, (xs.map fun x => [Value.int .i64 x]).flatten = xs.map (Value.int .i64)
  | [] => rfl
  | x :: xs => by simp [flat_ints (xs := xs)]
theorem flat_nils : ∀ {xs : List Int}, (xs.map fun _ => ([] : List Nat)).flatten = []
  | [] => rfl
  | x :: xs => by simp [flat_nils (xs := xs)]

theorem grow_heap {w : World} {os : Array Obj} {b : Nat} (h : b < w.heap.size) : (grow w os).heap[b]? = w.heap[b]? := by
  unfold grow; exact Array.getElem?_append_left h
theorem putRow_heap {w : World} {g off b : Nat} {d : Array Int} : (putRow (Value.int .i64) w g off d).heap[b]? = if g = b then (w.heap[b]?).map (onCells (putCells (Value.int .i64) off d)) else w.heap[b]? := by
  unfold putRow mapBlock
  rw [Array.getElem?_modify]

/-- slices.Sort of ints -/
theorem ext_sort [Laid] {P : Program} {f : FuncId} {E : TypeId} (hent : Enterable P f)
    (h1 : ∀ (blk off cap : Nat) (zs : List Int) (w : World), Holds (Value.int .i64) w blk off zs.toArray → blk < w.heap.size → zs.length < 4611686018427387904 →
      Calls P f #[.slice (some ⟨blk, off, none⟩) zs.length cap] w fun e w' => e = .returned (.tuple #[]) ∧ ∃ n os, w' = grow (putRow (Value.int .i64) (Sort.ahead w n) blk off (zs.mergeSort fun x y => decide (x ≤ y)).toArray) os)
    (h0 : ∀ (p : Option Addr) (cap : Nat) (w : World), Calls P f #[.slice p 0 cap] w fun e w' => e = .returned (.tuple #[]) ∧ w' = w) :
    Contract P f { params := [.io E (.int .i64)], res := [] } (fun xs => N.ite (N.len xs < 4611686018427387904) (some (N.sorted xs)) none) := by
  refine ⟨hent, fun a out w S lent cx vals hF hS h hv => ?_⟩
  have hF : N.ite (N.len (show List Int from a) < 4611686018427387904) (some (N.sorted a)) none = some out := hF
  unfold N.ite at hF
  split at hF
  case isFalse => cases hF
  rename_i hlt
  have hlt : (show List Int from a).length < 4611686018427387904 := by unfold N.len at hlt; omega
  simp only [Option.some.injEq] at hF
  match vals, hv with
  | [v], hv =>
    obtain ⟨⟨hv1, _⟩, _⟩ := hv
    have hob : ObR cx w (cx.μ 0) (.vec E (.int .i64) true 0 a) := h.ob 0 _ rfl
    obtain ⟨hver, hlen, hes, hrow⟩ := hob
    rcases hrow with ⟨ha, ⟨A, hA⟩, hf⟩ | ⟨g, cap, cur, css, bss, e1, e2, e3, e4, e5, e6, e7, e8⟩
    · have ha : (show List Int from a) = [] := ha
      have ho : (show List Int from out) = [] := by rw [← hF]; show N.sorted a = []; rw [show (a : List Int) = [] from ha]; simp [N.sorted]
      show Calls P f #[v] w _
      rw [hv1, hA]
      refine (h0 A 0 w).mono fun e w' he => ?_
      obtain ⟨rfl, rfl⟩ := he
      refine ⟨cx, ⟨[], rfl, trivial⟩, ?_, fun _ _ => rfl⟩
      have e : (show List Int from out) = a := ho.trans ha.symm
      have : heapOf (endOf [.io E (.int .i64)] (show List Int from out) ++ []) = heapOf (initOf 0 [.io E (.int .i64)] (show List Int from a)).2 := by rw [e]; rfl
      exact this ▸ h
    · obtain ⟨hcs, hbs⟩ := ints_of e8
      have hgs : g < w.heap.size := by
        false_or_by_contra
        rw [Array.getElem?_eq_none (by omega)] at e2
        cases e2
      have hcur : cur.toList.take (show List Int from a).length = (show List Int from a).map (Value.int .i64) := by
        have := e6
        rw [hcs, flat_ints] at this
        rw [← this]
        show _ = List.take ((show List Int from a).length * 1) _
        rw [Nat.mul_one]
      have hfoot : (cx.μ 0).foot = [g] := by rw [e7, hbs, flat_nils]
      have hh : Holds (Value.int .i64) w g 0 (show List Int from a).toArray := by
        intro j hj
        have hj : j < (show List Int from a).length := by simpa using hj
        constructor
        · unfold World.cell?
          simp only [e2, Option.isSome_none, Bool.false_eq_true, if_false, Nat.zero_add]
          have := congrArg (fun l => l[j]?) hcur
          simp only [List.getElem?_take, hj, if_true, List.getElem?_map] at this
          rw [← Array.getElem?_toList, this]
          simp [hj]
        · unfold World.frozen?
          simp [e2]
      show Calls P f #[v] w _
      rw [hv1, e1]
      refine (h1 g 0 cap a w hh hgs hlt).mono fun e w' he => ?_
      obtain ⟨rfl, n, os, rfl⟩ := he
      have ho : (show List Int from out) = (show List Int from a).mergeSort fun x y => decide (x ≤ y) := hF.symm
      have hol : (show List Int from out).length = (show List Int from a).length := by rw [ho, List.length_mergeSort]
      have hsz : ∀ os, (grow (putRow (Value.int .i64) (Sort.ahead w n) g 0 ((show List Int from a).mergeSort fun x y => decide (x ≤ y)).toArray) os).heap.size = w.heap.size + os.size := fun os => by
        simp [grow, putRow, mapBlock, Sort.ahead]
      have hother : ∀ b, b < w.heap.size → b ≠ g → (grow (putRow (Value.int .i64) (Sort.ahead w n) g 0 ((show List Int from a).mergeSort fun x y => decide (x ≤ y)).toArray) os).heap[b]? = w.heap[b]? := fun b hb hne => by
        rw [grow_heap (by simpa [putRow, mapBlock, Sort.ahead] using hb), putRow_heap, if_neg (Ne.symm hne)]; rfl
      have hat : (grow (putRow (Value.int .i64) (Sort.ahead w n) g 0 ((show List Int from a).mergeSort fun x y => decide (x ≤ y)).toArray) os).heap[g]? = some (.cells (putCells (Value.int .i64) 0 (show List Int from out).toArray cur) E (0, 0)) := by
        rw [grow_heap (by simpa [putRow, mapBlock, Sort.ahead] using hgs), putRow_heap, if_pos rfl, ho]
        show (w.heap[g]?).map _ = _
        rw [e2]; rfl
      refine ⟨cx, ⟨[], rfl, trivial⟩, ?_, fun _ _ => rfl⟩
      have hmine := h.mine 0 (.vec E (.int .i64) true 0 a) g rfl (by rw [hfoot]; simp)
      refine ⟨fun m o hm => ?_, fun m o hm => ?_, fun m hm => ?_, fun m m' o o' hm hm' hne => ?_, fun m o hm => ?_, fun m o b hm hb => ?_, fun b hb => ?_, h.sg, h.os, h.tape, h.output, ?_, fun b hb hl => ?_, h.laid⟩
      · cases m with
        | succ m => cases hm
        | zero =>
          have hm : Ob.vec E (.int .i64) true 0 (show List Int from out) = o := Option.some.inj (show some (Ob.vec E (.int .i64) true 0 (show List Int from out)) = some o from hm)
          subst hm
          refine ⟨hver, by rw [hlen, hol], hes, .inr ⟨g, cap, _, (show List Int from out).map (fun x => [Value.int .i64 x]), (show List Int from out).map (fun _ => []), by rw [e1, hol], hat, by rw [hol]; exact e3, e4, by simp [putCells]; exact e5, ?_, by rw [hfoot, flat_nils], of_ints⟩⟩
          rw [flat_ints]
          apply List.ext_getElem?
          intro i
          show (List.take ((show List Int from out).length * 1) _)[i]? = _
          rw [Nat.mul_one, List.getElem?_take, List.getElem?_map]
          by_cases hi : i < (show List Int from out).length
          · have hic : i < cur.size := by
              have q1 : cur.size = cap * 1 := e5
              have q2 : (show List Int from a).length ≤ cap := e3
              rw [q1, Nat.mul_one]
              exact Nat.lt_of_lt_of_le hi (by rw [hol]; exact q2)
            simp [putCells, hi, hic]
          · simp [hi]
      · cases m with
        | succ m => cases hm
        | zero => exact Nat.one_pos
      · refine h.dead m ?_
        cases m with
        | succ m => rfl
        | zero => cases hm
      · cases m with
        | succ m => cases hm
        | zero => cases m' with
          | succ m => cases hm'
          | zero => exact absurd rfl hne
      · cases m with
        | succ m => cases hm
        | zero => exact h.nd 0 _ rfl
      · cases m with
        | succ m => cases hm
        | zero =>
          have := h.mine 0 _ b rfl hb
          exact ⟨this.1, Nat.lt_of_lt_of_le this.2.1 (by rw [hsz]; exact Nat.le_add_right _ _), this.2.2⟩
      · exact Nat.lt_of_lt_of_le (h.ss b hb) (by rw [hsz]; exact Nat.le_add_right _ _)
      · show w.heap.size ≤ _
        rw [hsz]; exact Nat.le_add_right _ _
      · have hne : b ≠ g := by
          rintro rfl
          rcases hmine.1 with h' | ⟨_, h'⟩
          · have : w.heap.size ≤ b := h'
            omega
          · exact hl h'
        exact hother b hb hne
end Go.Sh

namespace Go.Sh
open Go Go.RowKit

def N.uniq (xs : List Int) : List Int := Lib.compact (xs.mergeSort fun x y => decide (x ≤ y))
/-- a number set into an ascending row, ahead of the first one that is not less, unless it is there -/
def N.withD (xs : List Int) (d : Int) : List Int :=
  if xs[(xs.takeWhile fun x => decide (x < d)).length]? = some d then xs else xs.take (xs.takeWhile fun x => decide (x < d)).length ++ d :: xs.drop (xs.takeWhile fun x => decide (x < d)).length
/-- what is left without -1, ascending -/
def N.seen (f : List Int) : List Int := (f.filter fun x => !decide (x = -1)).mergeSort fun x y => decide (x ≤ y)
def N.provenAt (f : List Int) (k : Int) : Int := if 0 ≤ k ∧ k < ((N.seen f).length : Int) then (N.seen f).getD k.toNat 0 else -1
theorem uniq_nil : N.uniq [] = [] := by unfold N.uniq; simp [Lib.compact, Lib.compactUpTo]

/-- a row of ints that a call hands back -/
theorem final_ints [Laid] {w w' : World} {S lent : Nat → Prop} {cx : Cx} {E : TypeId} {v : Value} {res : List Int} (hS : cx.S = S) (h : RH ⟨w, S, lent, 0⟩ 0 (fun _ => none) cx w)
    (hown : w'.ownsRow w.heap.size E 1 v res.length (res.map (Value.int .i64))) (hb : Below w.heap.size w w') :
    ∃ cx', VR cx' w' (.lf (.ref 0)) v ∧ RH ⟨w, S, lent, 0⟩ 1 (heapOf [.vec E (.int .i64) true 0 res]) cx' w' := by
  have key : ∀ foot : List Nat, Row1 w' E 1 (El w' cx.S true (.int .i64)) v res foot → foot.Nodup → (∀ b ∈ foot, w.heap.size ≤ b ∧ b < w'.heap.size) → (∃ A l c, v = .slice A l c) → ∃ cx', VR cx' w' (.lf (.ref 0)) v ∧ RH ⟨w, S, lent, 0⟩ 1 (heapOf [.vec E (.int .i64) true 0 res]) cx' w' := fun foot hrow hnd hf hv => by
    refine ⟨cx.at 0 ⟨v, res.length, 1, 0, foot⟩, ⟨by rw [Cx.at_self], hv⟩, fun m o hm => ?_, fun m o hm => ?_, fun m hm => ?_, fun m m' o o' hm hm' hne => ?_, fun m o hm => ?_, fun m o b hm hbf => ?_, fun b hbs => ?_, h.sg, hb.os, hb.tape, hb.output, hb.size, fun b hlt _ => hb.block b hlt, h.laid⟩
    · cases m with
      | succ m => cases hm
      | zero =>
        have hm : Ob.vec E (.int .i64) true 0 res = o := Option.some.inj hm
        subst hm
        rw [Cx.at_self]
        exact ⟨rfl, rfl, rfl, hrow⟩
    · cases m with
      | succ m => cases hm
      | zero => exact Nat.one_pos
    · cases m with
      | zero => cases hm
      | succ m => rw [Cx.at_other _ _ _ _ (by omega)]; exact h.dead _ rfl
    · cases m with
      | succ m => cases hm
      | zero => cases m' with
        | succ m => cases hm'
        | zero => exact absurd rfl hne
    · cases m with
      | succ m => cases hm
      | zero => rw [Cx.at_self]; exact hnd
    · cases m with
      | succ m => cases hm
      | zero =>
        rw [Cx.at_self] at hbf
        obtain ⟨q1, q2⟩ := hf b hbf
        refine ⟨.inl q1, q2, fun hs => ?_⟩
        have := h.ss b hs
        omega
    · exact Nat.lt_of_lt_of_le (h.ss b hbs) hb.size
  rcases hown.2 with ⟨rfl, hn⟩ | ⟨g, cap, cur, rfl, hbase, hg, h1, h2, h3, h4⟩
  · have hr : res = [] := List.length_eq_zero_iff.1 hn
    exact key [] (.inl ⟨hr, ⟨none, rfl⟩, rfl⟩) List.nodup_nil (fun b hb => by cases hb) ⟨_, _, _, rfl⟩
  · have hlt : g < w'.heap.size := by
      false_or_by_contra
      rw [Array.getElem?_eq_none (by omega)] at hg
      cases hg
    refine key [g] (.inr ⟨g, cap, cur, res.map (fun x => [Value.int .i64 x]), res.map (fun _ => []), rfl, hg, h1, h2, h3, by rw [h4, flat_ints], by rw [flat_nils], of_ints⟩) (by simp) (fun b hb => ?_) ⟨_, _, _, rfl⟩
    simp only [List.mem_singleton] at hb
    subst hb
    exact ⟨hbase, hlt⟩

/-- numbers, ascending and each once -/
theorem ext_sorted [Laid] {P : Program} {f : FuncId} {E : TypeId} (hent : Enterable P f)
    (h1 : ∀ (b off n c : Nat) (zs : List Int) (w : World), n ≤ zs.length → n * 8 ≤ 140737488355328 → (∀ j, j < zs.length → w.cell? ⟨b, off + j, none⟩ = some (.int .i64 (zs.getD j 0))) →
      Calls P f #[.slice (some ⟨b, off, none⟩) n c] w fun e w' => ∃ v, e = .returned v ∧ w'.ownsRow w.heap.size E 1 v (N.uniq (zs.take n)).length ((N.uniq (zs.take n)).map (Value.int .i64)) ∧ Below w.heap.size w w')
    (hz : ∀ (a : Addr) (c : Nat) (w : World), Calls P f #[.slice (some a) 0 c] w fun e w' => ∃ v, e = .returned v ∧ w'.ownsRow w.heap.size E 1 v 0 [] ∧ Below w.heap.size w w')
    (h0 : ∀ (c : Nat) (w : World), Calls P f #[.slice none 0 c] w fun e w' => e = .returned (.slice none 0 0) ∧ w' = w) :
    Contract P f { params := [.val false (.slice E (.int .i64))], res := [.row E (.int .i64) true] } (fun xs => N.ite (N.len xs * 8 ≤ 140737488355328) (some (N.uniq xs)) none) := by
  refine ⟨hent, fun a out w S lent cx vals hF hS h hv => ?_⟩
  have hF : N.ite (N.len (show List Int from a) * 8 ≤ 140737488355328) (some (N.uniq a)) none = some out := hF
  unfold N.ite at hF
  split at hF
  case isFalse => cases hF
  rename_i hlt
  have hlt : (show List Int from a).length * 8 ≤ 140737488355328 := by unfold N.len at hlt; omega
  simp only [Option.some.injEq] at hF
  have hout : (show List Int from out) = N.uniq a := hF.symm
  match vals, hv with
  | [v], hv =>
    have hrd : Rd w cx.S (.slice E (.int .i64)) [v] (show List Int from a) := hv.1
    obtain ⟨A, cap, e1, hcap, hel⟩ := hrd
    simp only [List.cons.injEq, and_true] at e1
    subst e1
    have hh : RH ⟨w, S, lent, 0⟩ 0 (fun _ => none) cx w := by
      have : (fun _ => none : Heap) = heapOf (initOf 0 [.val false (.slice E (.int .i64))] (show List Int from a)).2 := by funext k; cases k <;> rfl
      rw [this]; exact h
    have fin : ∀ {e : Ending} {w' : World}, (∃ v, e = .returned v ∧ w'.ownsRow w.heap.size E 1 v (show List Int from out).length ((show List Int from out).map (Value.int .i64)) ∧ Below w.heap.size w w') → match e with
        | .returned v => Final ⟨w, S, lent, 0⟩ { params := [.val false (.slice E (.int .i64))], res := [.row E (.int .i64) true] } cx 0 out v w'
        | _ => False := fun {e w'} he => by
      obtain ⟨v, rfl, ho, hb⟩ := he
      obtain ⟨cx', g1, g2⟩ := final_ints (res := (show List Int from out)) hS hh ho hb
      exact ⟨cx', g1, g2, fun k hk => absurd hk (Nat.not_lt_zero k)⟩
    by_cases hnil : (show List Int from a) = []
    · have ho : (show List Int from out) = [] := by rw [hout, show (a : List Int) = [] from hnil, uniq_nil]
      have hl : (show List Int from a).length = 0 := by rw [hnil]; rfl
      show Calls P f #[.slice A (show List Int from a).length cap] w _
      rw [hl]
      cases A with
      | none =>
        refine (h0 cap w).mono fun e w' he => fin ?_
        obtain ⟨rfl, rfl⟩ := he
        exact ⟨_, rfl, by rw [ho]; exact ⟨rfl, .inl ⟨rfl, rfl⟩⟩, Below.refl _ _⟩
      | some ad =>
        refine (hz ad cap w).mono fun e w' he => fin ?_
        rw [ho]; exact he
    · have hpos : 0 < (show List Int from a).length := List.length_pos_iff.2 hnil
      obtain ⟨b, o, ci, rfl, _, _, _⟩ := hel 0 hpos
      refine (h1 b o (show List Int from a).length cap a w (Nat.le_refl _) hlt fun j hj => ?_).mono fun e w' he => fin ?_
      · obtain ⟨b', o', cj, e2, _, hcell, hr⟩ := hel j hj
        simp only [Option.some.injEq, Addr.mk.injEq, and_true] at e2
        obtain ⟨rfl, rfl⟩ := e2
        have hr : cj = [Value.int .i64 (show List Int from a)[j]] := hr
        have := hcell 0 (.int .i64 (show List Int from a)[j]) (by rw [hr]; rfl)
        have e3 : o + j * (Ty.int .i64).size + 0 = o + j := by show o + j * 1 + 0 = o + j; omega
        rw [e3] at this
        rw [this]
        congr 2
        simp [hj]
      · obtain ⟨v, q1, q2, q3⟩ := he
        rw [List.take_length] at q2
        exact ⟨v, q1, by rw [hout]; exact q2, q3⟩
end Go.Sh

namespace Go.Sh
open Go Go.RowKit

/-- a row of ints and an int, to a new row of ints -/
theorem ext_rowOf [Laid] {P : Program} {f : FuncId} {E : TypeId} (F : List Int → Int → List Int) (hent : Enterable P f)
    (h1 : ∀ (b off c : Nat) (zs : List Int) (d : Int) (w : World), (zs.length + 1) * 8 ≤ 140737488355328 → (∀ j, j < zs.length → w.cell? ⟨b, off + j, none⟩ = some (.int .i64 (zs.getD j 0))) →
      Calls P f #[.slice (some ⟨b, off, none⟩) zs.length c, .int .i64 d] w fun e w' => ∃ v, e = .returned v ∧ w'.ownsRow w.heap.size E 1 v (F zs d).length ((F zs d).map (Value.int .i64)) ∧ Below w.heap.size w w')
    (h0 : ∀ (A : Option Addr) (c : Nat) (d : Int) (w : World), Calls P f #[.slice A 0 c, .int .i64 d] w fun e w' => ∃ v, e = .returned v ∧ w'.ownsRow w.heap.size E 1 v (F [] d).length ((F [] d).map (Value.int .i64)) ∧ Below w.heap.size w w') :
    Contract P f { params := [.val false (.slice E (.int .i64)), .val false (.int .i64)], res := [.row E (.int .i64) true] } (fun a => N.ite (N.len a.1 * 8 ≤ 140737488355320) (some (F a.1 a.2)) none) := by
  refine ⟨hent, fun a out w S lent cx vals hF hS h hv => ?_⟩
  obtain ⟨zs, d⟩ := a
  have hF : N.ite (N.len (show List Int from zs) * 8 ≤ 140737488355320) (some (F zs d)) none = some out := hF
  unfold N.ite at hF
  split at hF
  case isFalse => cases hF
  rename_i hlt
  have hlt : ((show List Int from zs).length + 1) * 8 ≤ 140737488355328 := by unfold N.len at hlt; omega
  simp only [Option.some.injEq] at hF
  have hout : (show List Int from out) = F zs d := hF.symm
  match vals, hv with
  | [v, u], hv =>
    have hrd : Rd w cx.S (.slice E (.int .i64)) [v] (show List Int from zs) := hv.1
    have hu : u = .int .i64 d := hv.2.1
    subst hu
    obtain ⟨A, cap, e1, hcap, hel⟩ := hrd
    simp only [List.cons.injEq, and_true] at e1
    subst e1
    have hh : RH ⟨w, S, lent, 0⟩ 0 (fun _ => none) cx w := by
      have : (fun _ => none : Heap) = heapOf (initOf 0 [.val false (.slice E (.int .i64)), .val false (.int .i64)] ((show List Int from zs), d)).2 := by funext k; cases k <;> rfl
      rw [this]; exact h
    have fin : ∀ {e : Ending} {w' : World}, (∃ v, e = .returned v ∧ w'.ownsRow w.heap.size E 1 v (show List Int from out).length ((show List Int from out).map (Value.int .i64)) ∧ Below w.heap.size w w') → match e with
        | .returned v => Final ⟨w, S, lent, 0⟩ { params := [.val false (.slice E (.int .i64)), .val false (.int .i64)], res := [.row E (.int .i64) true] } cx 0 out v w'
        | _ => False := fun {e w'} he => by
      obtain ⟨v, rfl, ho, hb⟩ := he
      obtain ⟨cx', g1, g2⟩ := final_ints (res := (show List Int from out)) hS hh ho hb
      exact ⟨cx', g1, g2, fun k hk => absurd hk (Nat.not_lt_zero k)⟩
    by_cases hnil : (show List Int from zs) = []
    · have hl : (show List Int from zs).length = 0 := by rw [hnil]; rfl
      show Calls P f #[.slice A (show List Int from zs).length cap, .int .i64 d] w _
      rw [hl]
      refine (h0 A cap d w).mono fun e w' he => fin ?_
      rw [hout, show (zs : List Int) = [] from hnil]; exact he
    · have hpos : 0 < (show List Int from zs).length := List.length_pos_iff.2 hnil
      obtain ⟨b, o, ci, rfl, _, _, _⟩ := hel 0 hpos
      refine (h1 b o cap zs d w hlt fun j hj => ?_).mono fun e w' he => fin (by rw [hout]; exact he)
      obtain ⟨b', o', cj, e2, _, hcell, hr⟩ := hel j hj
      simp only [Option.some.injEq, Addr.mk.injEq, and_true] at e2
      obtain ⟨rfl, rfl⟩ := e2
      have hr : cj = [Value.int .i64 (show List Int from zs)[j]] := hr
      have := hcell 0 (.int .i64 (show List Int from zs)[j]) (by rw [hr]; rfl)
      have e3 : o + j * (Ty.int .i64).size + 0 = o + j := by show o + j * 1 + 0 = o + j; omega
      rw [e3] at this
      have e4 : ∀ (l : List Int) (hj : j < l.length), l.getD j 0 = l[j] := fun l hj => by simp [hj]
      refine this.trans ?_
      rw [e4 zs hj]

/-- a row of ints that a call has made -/
def RowAt (w w' : World) (E : TypeId) (v : Value) (xs : List Int) : Prop :=
  (xs = [] ∧ ∃ A, v = .slice A 0 0) ∨ ∃ g cap cur, v = .slice (some ⟨g, 0, none⟩) xs.length cap ∧ w.heap.size ≤ g ∧ w'.heap[g]? = some (.cells cur E (0, 0)) ∧ xs.length ≤ cap ∧ cap ≤ maxLen ∧ cur.size = cap ∧ cur.toList.take xs.length = xs.map (Value.int .i64)

/-- nothing of the caller's has changed -/
theorem rh_below [Laid] {w w' : World} {S lent : Nat → Prop} {cx : Cx} (h : RH ⟨w, S, lent, 0⟩ 0 (fun _ => none) cx w) (hb : Below w.heap.size w w') : RH ⟨w, S, lent, 0⟩ 0 (fun _ => none) cx w' :=
  ⟨fun n o hn => by (cases hn), fun n o hn => by (cases hn), h.dead, fun n m o o' hn => by (cases hn), fun n o hn => by (cases hn), fun n o b hn => by (cases hn), fun b hs => Nat.lt_of_lt_of_le (h.ss b hs) hb.size, h.sg, hb.os, hb.tape, hb.output, hb.size, fun b hlt _ => hb.block b hlt, h.laid⟩

theorem ints_of_d : ∀ {d : Bool} {css : List (List Value)} {xs : List Int} {bss : List (List Nat)} {w : World} {S : Nat → Prop}, All3 (El w S d (.int .i64)) css xs bss → css = xs.map (fun x => [Value.int .i64 x]) ∧ bss = xs.map fun _ => []
  | _, [], [], [], _, _, _ => ⟨rfl, rfl⟩
  | d, c :: css, x :: xs, b :: bss, w, S, h => by
    obtain ⟨h1, h2⟩ := h
    obtain ⟨r1, r2⟩ := ints_of_d h2
    have h3 : c = [Value.int .i64 x] ∧ b = [] := by
      cases d with
      | true => exact h1
      | false => exact h1
    rw [r1, r2, h3.1, h3.2]
    exact ⟨rfl, rfl⟩
  | _, [], [], _ :: _, _, _, h => h.elim
  | _, [], _ :: _, _, _, _, h => h.elim
  | _, _ :: _, [], _, _, _, h => h.elim
  | _, _ :: _, _ :: _, [], _, _, h => h.elim

/-- a function that calls one that makes a row of ints, and gives back an int -/
theorem ext_after [Laid] {P : Program} {f g : FuncId} {E : TypeId} {T : Ty} {dp : Bool} {F : ({ params := [.val false (.slice E (.int .i64)), .val false T, .val false (.int .i64)], res := [.row E (.int .i64) dp] } : Sig).args → Option ({ params := [.val false (.slice E (.int .i64)), .val false T, .val false (.int .i64)], res := [.row E (.int .i64) dp] } : Sig).outs}
    (hc : Contract P g { params := [.val false (.slice E (.int .i64)), .val false T, .val false (.int .i64)], res := [.row E (.int .i64) dp] } F) (hent : Enterable P f) (Fin : List Int → Int → Int)
    (h1 : ∀ (v1 v2 v3 : Value) (k : Int) (w : World) (xs : List Int), xs.length * 8 ≤ 140737488355328 → (Calls P g #[v1, v2, v3] w fun e w' => ∃ v, e = .returned v ∧ RowAt w w' E v xs ∧ Below w.heap.size w w') →
      Calls P f #[v1, v2, v3, .int .i64 k] w fun e w' => e = .returned (.int .i64 (Fin xs k)) ∧ Below w.heap.size w w') :
    Contract P f { params := [.val false (.slice E (.int .i64)), .val false T, .val false (.int .i64), .val false (.int .i64)], res := [.val false (.int .i64)] } (fun a => N.bind (F (a.1, a.2.1, a.2.2.1)) fun r1 => N.ite (N.len (show List Int from r1) * 8 ≤ 140737488355328) (some (Fin r1 a.2.2.2)) none) := by
  refine ⟨hent, fun a out w S lent cx vals hF hS h hv => ?_⟩
  obtain ⟨ks, l, d, k⟩ := a
  have hF : N.bind (F (ks, l, d)) (fun r1 => N.ite (N.len (show List Int from r1) * 8 ≤ 140737488355328) (some (Fin r1 k)) none) = some out := hF
  cases hr : F (ks, l, d) with
  | none => rw [hr] at hF; cases hF
  | some r1 =>
    rw [hr] at hF
    have hF : N.ite (N.len (show List Int from r1) * 8 ≤ 140737488355328) (some (Fin r1 k)) none = some out := hF
    unfold N.ite at hF
    split at hF
    case isFalse => cases hF
    rename_i hlt
    have hlt : (show List Int from r1).length * 8 ≤ 140737488355328 := by unfold N.len at hlt; omega
    simp only [Option.some.injEq] at hF
    have hout : (show Int from out) = Fin r1 k := hF.symm
    match vals, hv with
    | [v1, v2, v3, v4], hv =>
      have hv4 : v4 = .int .i64 k := hv.2.2.2.1
      subst hv4
      have hh : RH ⟨w, S, lent, 0⟩ 0 (fun _ => none) cx w := by
        have : (fun _ => none : Heap) = heapOf (initOf 0 [.val false (.slice E (.int .i64)), .val false T, .val false (.int .i64), .val false (.int .i64)] (ks, l, d, k)).2 := by funext k; cases k <;> rfl
        rw [this]; exact h
      have hh2 : RH ⟨w, S, fun _ => False, 0⟩ 0 (heapOf []) cx w :=
        ⟨fun n o hn => by (cases hn), fun n o hn => by (cases hn), fun n _ => hh.dead n rfl, fun n m o o' hn => by (cases hn), fun n o hn => by (cases hn), fun n o b hn => by (cases hn), hh.ss, hh.sg, rfl, rfl, rfl, Nat.le_refl _, fun _ _ _ => rfl, hh.laid.1, fun _ _ h => h⟩
      have hcall := hc.2 (ks, l, d) r1 w S (fun _ => False) cx [v1, v2, v3] hr hS hh2 ⟨hv.1, hv.2.1, hv.2.2.1, trivial⟩
      refine (h1 v1 v2 v3 k w r1 hlt (hcall.mono fun e w' he => ?_)).mono fun e w' he => ?_
      · cases e with
        | panicked c => exact he.elim
        | outgrown => exact he.elim
        | returned v =>
          obtain ⟨cx', hv', hr', _⟩ := he
          have hv' : v = (cx'.μ 0).v := hv'.1
          have hob : ObR cx' w' (cx'.μ 0) (.vec E (.int .i64) dp 0 (show List Int from r1)) := hr'.ob 0 _ rfl
          obtain ⟨_, _, _, hrow⟩ := hob
          refine ⟨v, rfl, ?_, hr'.os, hr'.tape, hr'.output, hr'.size, fun b hb => hr'.block b hb fun h => h⟩
          rw [hv']
          rcases hrow with ⟨ha, ⟨A, hA⟩, _⟩ | ⟨g', cap, cur, css, bss, e1, e2, e3, e4, e5, e6, e7, e8⟩
          · exact .inl ⟨ha, A, hA⟩
          · obtain ⟨hcs, hbs⟩ := ints_of_d e8
            have hfoot : (cx'.μ 0).foot = [g'] := by rw [e7, hbs, flat_nils]
            have hm := (hr'.mine 0 (.vec E (.int .i64) dp 0 (show List Int from r1)) g' rfl (by rw [hfoot]; simp)).1
            have hg : w.heap.size ≤ g' := by
              rcases hm with hm | ⟨_, hm⟩
              · exact hm
              · exact hm.elim
            refine .inr ⟨g', cap, cur, e1, hg, e2, e3, e4, ?_, ?_⟩
            · have : cur.size = cap * 1 := e5
              omega
            · have := e6
              rw [hcs, flat_ints] at this
              rw [← this]
              show _ = List.take ((show List Int from r1).length * 1) _
              rw [Nat.mul_one]
      · obtain ⟨rfl, hb⟩ := he
        refine ⟨cx, ?_, ?_, fun k hk => absurd hk (Nat.not_lt_zero k)⟩
        · show VR cx w' (.lf (.int .i64 (show Int from out))) _
          rw [hout]; rfl
        · have : heapOf (endOf [.val false (.slice E (.int .i64)), .val false T, .val false (.int .i64), .val false (.int .i64)] (ioOf [.val false (.int .i64)] out) ++ (resOf 0 [.val false (.int .i64)] out).2) = (fun _ => none : Heap) := by funext k; cases k <;> rfl
          have := rh_below hh hb
          exact this
end Go.Sh

namespace Go.Sh
open Go Go.RowKit

def N.itoa (n : Int) : Option ByteArray := if -9223372036854775808 ≤ n ∧ n ≤ 9223372036854775807 then some ⟨(Lib.itoa n).toArray⟩ else none
def N.cutPrefix (s p : ByteArray) : Option (ByteArray × Bool) := some (⟨(Lib.trimPrefix s.data.toList p.data.toList).toArray⟩, Lib.hasPrefix s.data.toList p.data.toList)
def N.cutAt (s p : ByteArray) : Option (ByteArray × ByteArray × Bool) :=
  if s.size < 4294967281 then some (⟨(Lib.cut s.data.toList p.data.toList).1.toArray⟩, ⟨(Lib.cut s.data.toList p.data.toList).2.1.toArray⟩, (Lib.cut s.data.toList p.data.toList).2.2) else none

theorem rh_none [Laid] {w : World} {S lent : Nat → Prop} {cx : Cx} {k : Nat} {H : Heap} (h : RH ⟨w, S, lent, k⟩ k H cx w) (hk : k = 0) (hH : ∀ n, H n = none) : RH ⟨w, S, lent, 0⟩ 0 (fun _ => none) cx w := by
  subst hk
  have : (fun _ => none : Heap) = H := by funext n; exact (hH n).symm
  rw [this]; exact h

theorem ext_itoa [Laid] {P : Program} {f : FuncId} (hent : Enterable P f)
    (h1 : ∀ (n : Int) (w : World), Laid.ok w → -9223372036854775808 ≤ n → n ≤ 9223372036854775807 → Calls P f #[.int .i64 n] w fun e w' => e = .returned (.string ⟨(Lib.itoa n).toArray⟩) ∧ Below w.heap.size w w') :
    Contract P f { params := [.val false (.int .i64)], res := [.val false .str] } (fun n => N.itoa n) := by
  refine ⟨hent, fun a out w S lent cx vals hF hS h hv => ?_⟩
  have hF : N.itoa (show Int from a) = some (show ByteArray from out) := hF
  unfold N.itoa at hF
  split at hF
  case isFalse => cases hF
  rename_i hn
  simp only [Option.some.injEq] at hF
  match vals, hv with
  | [v], hv =>
    have hv1 : v = .int .i64 (show Int from a) := hv.1
    subst hv1
    have hh := rh_none h rfl fun n => by cases n <;> rfl
    refine (h1 _ w hh.now hn.1 hn.2).mono fun e w' he => ?_
    obtain ⟨rfl, hb⟩ := he
    refine ⟨cx, ?_, rh_below hh hb, fun k hk => absurd hk (Nat.not_lt_zero k)⟩
    show VR cx w' (.lf (.str (show ByteArray from out))) _
    rw [← hF]; rfl

theorem ext_cutPrefix [Laid] {P : Program} {f : FuncId} (hent : Enterable P f)
    (h1 : ∀ (s p : ByteArray) (w : World), Calls P f #[.string s, .string p] w fun e w' => e = .returned (.tuple #[.string ⟨(Lib.trimPrefix s.data.toList p.data.toList).toArray⟩, .bool (Lib.hasPrefix s.data.toList p.data.toList)]) ∧ w' = w) :
    Contract P f { params := [.val false .str, .val false .str], res := [.val false .str, .val false .bool] } (fun a => N.cutPrefix a.1 a.2) := by
  refine ⟨hent, fun a out w S lent cx vals hF hS h hv => ?_⟩
  obtain ⟨s, p⟩ := a
  obtain ⟨o1, o2⟩ := out
  have hF : N.cutPrefix s p = some (o1, o2) := hF
  unfold N.cutPrefix at hF
  simp only [Option.some.injEq, Prod.mk.injEq] at hF
  match vals, hv with
  | [v, u], hv =>
    have hv1 : v = .string s := hv.1
    have hv2 : u = .string p := hv.2.1
    subst hv1 hv2
    have hh := rh_none h rfl fun n => by cases n <;> rfl
    refine (h1 _ _ w).mono fun e w' he => ?_
    obtain ⟨rfl, rfl⟩ := he
    refine ⟨cx, ?_, rh_below hh (Below.refl _ _), fun k hk => absurd hk (Nat.not_lt_zero k)⟩
    show VR cx w' (.tup [(false, [.str o1]), (false, [.bool o2])]) _
    exact ⟨_, rfl, ⟨_, rfl, by rw [← hF.1]; rfl⟩, ⟨_, rfl, by rw [← hF.2]; rfl⟩, trivial⟩

theorem ext_cutAt [Laid] {P : Program} {f : FuncId} (hent : Enterable P f)
    (h1 : ∀ (s p : ByteArray) (w : World), Laid.ok w → s.size < 4294967281 → Calls P f #[.string s, .string p] w fun e w' => e = .returned (.tuple #[.string ⟨(Lib.cut s.data.toList p.data.toList).1.toArray⟩, .string ⟨(Lib.cut s.data.toList p.data.toList).2.1.toArray⟩, .bool (Lib.cut s.data.toList p.data.toList).2.2]) ∧ Below w.heap.size w w') :
    Contract P f { params := [.val false .str, .val false .str], res := [.val false .str, .val false .str, .val false .bool] } (fun a => N.cutAt a.1 a.2) := by
  refine ⟨hent, fun a out w S lent cx vals hF hS h hv => ?_⟩
  obtain ⟨s, p⟩ := a
  obtain ⟨o1, o2, o3⟩ := out
  have hF : N.cutAt s p = some (o1, o2, o3) := hF
  unfold N.cutAt at hF
  split at hF
  case isFalse => cases hF
  rename_i hn
  simp only [Option.some.injEq, Prod.mk.injEq] at hF
  match vals, hv with
  | [v, u], hv =>
    have hv1 : v = .string s := hv.1
    have hv2 : u = .string p := hv.2.1
    subst hv1 hv2
    have hh := rh_none h rfl fun n => by cases n <;> rfl
    refine (h1 _ _ w hh.now hn).mono fun e w' he => ?_
    obtain ⟨rfl, hb⟩ := he
    refine ⟨cx, ?_, rh_below hh hb, fun k hk => absurd hk (Nat.not_lt_zero k)⟩
    show VR cx w' (.tup [(false, [.str o1]), (false, [.str o2]), (false, [.bool o3])]) _
    exact ⟨_, rfl, ⟨_, rfl, by rw [← hF.1]; rfl⟩, ⟨_, rfl, by rw [← hF.2.1]; rfl⟩, ⟨_, rfl, by rw [← hF.2.2]; rfl⟩, trivial⟩
end Go.Sh

namespace Go.Sh
open Go Go.RowKit

def N.joinS (xs : List ByteArray) (sep : ByteArray) : Option ByteArray :=
  if xs.length ≤ 140737488355328 ∧ (Lib.join (xs.map (·.data.toList)) sep.data.toList).length ≤ 140737488355328 then some ⟨(Lib.join (xs.map (·.data.toList)) sep.data.toList).toArray⟩ else none

theorem ext_join [Laid] {P : Program} {f : FuncId} {E : TypeId} (hent : Enterable P f)
    (h0 : ∀ (a : Option Addr) (c : Nat) (sep : ByteArray) (w : World), Calls P f #[.slice a 0 c, .string sep] w fun e w' => e = .returned (.string ⟨#[]⟩) ∧ w' = w)
    (h1 : ∀ (bk o c : Nat) (xs : List ByteArray) (sep : ByteArray) (w : World), (∀ (j : Nat) x, xs[j]? = some x → w.cell? ⟨bk, o + j, none⟩ = some (.string x)) → bk < w.heap.size → xs.length ≤ 140737488355328 → xs.length ≤ c →
      (Lib.join (xs.map (·.data.toList)) sep.data.toList).length ≤ 140737488355328 →
      Calls P f #[.slice (some ⟨bk, o, none⟩) xs.length c, .string sep] w fun e w' => e = .returned (.string ⟨(Lib.join (xs.map (·.data.toList)) sep.data.toList).toArray⟩) ∧ Below w.heap.size w w') :
    Contract P f { params := [.val false (.slice E .str), .val false .str], res := [.val false .str] } (fun a => N.joinS a.1 a.2) := by
  refine ⟨hent, fun a out w S lent cx vals hF hS h hv => ?_⟩
  obtain ⟨xs, sep⟩ := a
  have hF : N.joinS xs sep = some (show ByteArray from out) := hF
  unfold N.joinS at hF
  split at hF
  case isFalse => cases hF
  rename_i hn
  simp only [Option.some.injEq] at hF
  match vals, hv with
  | [v, u], hv =>
    have hrd : Rd w cx.S (.slice E .str) [v] (show List ByteArray from xs) := hv.1
    have hv2 : u = .string sep := hv.2.1
    subst hv2
    obtain ⟨A, cap, e1, hcap, hel⟩ := hrd
    simp only [List.cons.injEq, and_true] at e1
    subst e1
    have hh := rh_none h rfl fun n => by cases n <;> rfl
    have fin : ∀ {e : Ending} {w' : World}, (e = .returned (.string ⟨(Lib.join ((show List ByteArray from xs).map (·.data.toList)) sep.data.toList).toArray⟩) ∧ Below w.heap.size w w') → match e with
        | .returned v => Final ⟨w, S, lent, 0⟩ { params := [.val false (.slice E .str), .val false .str], res := [.val false .str] } cx 0 out v w'
        | _ => False := fun {e w'} he => by
      obtain ⟨rfl, hb⟩ := he
      refine ⟨cx, ?_, rh_below hh hb, fun k hk => absurd hk (Nat.not_lt_zero k)⟩
      show VR cx w' (.lf (.str (show ByteArray from out))) _
      rw [← hF]; rfl
    by_cases hnil : (show List ByteArray from xs) = []
    · have hl : (show List ByteArray from xs).length = 0 := by rw [hnil]; rfl
      show Calls P f #[.slice A (show List ByteArray from xs).length cap, .string sep] w _
      rw [hl]
      refine (h0 A cap sep w).mono fun e w' he => fin ?_
      obtain ⟨rfl, rfl⟩ := he
      rw [hnil]
      exact ⟨rfl, Below.refl _ _⟩
    · have hpos : 0 < (show List ByteArray from xs).length := List.length_pos_iff.2 hnil
      have hcells : ∀ {b o : Nat}, A = some ⟨b, o, none⟩ → ∀ (j : Nat) x, (show List ByteArray from xs)[j]? = some x → w.cell? ⟨b, o + j, none⟩ = some (.string x) := fun {b o} hA j x hx => by
        have hj : j < (show List ByteArray from xs).length := by
          false_or_by_contra
          rw [List.getElem?_eq_none (by omega)] at hx
          cases hx
        obtain ⟨b', o', cj, e2, _, hcell, hr⟩ := hel j hj
        rw [hA] at e2
        simp only [Option.some.injEq, Addr.mk.injEq, and_true] at e2
        obtain ⟨rfl, rfl⟩ := e2
        have hr : cj = [Value.string (show List ByteArray from xs)[j]] := hr
        have := hcell 0 (.string (show List ByteArray from xs)[j]) (by rw [hr]; rfl)
        have e3 : o + j * Ty.size .str + 0 = o + j := by show o + j * 1 + 0 = o + j; omega
        rw [e3] at this
        rw [List.getElem?_eq_getElem hj] at hx
        rw [← Option.some.inj hx]
        exact this
      obtain ⟨b, o, ci, hA, _, _, _⟩ := hel 0 hpos
      subst hA
      have hb : b < w.heap.size := by
        have := hcells rfl 0 _ (List.getElem?_eq_getElem hpos)
        false_or_by_contra
        rename_i hn2
        have h3 : w.heap[b]? = none := Array.getElem?_eq_none (by omega)
        simp [World.cell?, h3] at this
      exact (h1 b o cap xs sep w (hcells rfl) hb hn.1 (by first | exact hcap.1 | exact hcap | omega) hn.2).mono fun e w' he => fin he
end Go.Sh

namespace Go.Sh
open Go Go.RowKit

/-! ## Contracts as facts on memory: for a function that is walked by hand -/
/-- what stood, and what is new -/
def NW (S : Nat → Prop) (w w' : World) : Nat → Prop := fun b => S b ∨ (w.heap.size ≤ b ∧ b < w'.heap.size)
def cx0 (S : Nat → Prop) : Cx := ⟨S, fun _ => noRO⟩

theorem all2_split {α β : Type} {r : α → β → Prop} : ∀ {l1 l2 : List α} {vs : List β}, All2 r (l1 ++ l2) vs → ∃ v1 v2, vs = v1 ++ v2 ∧ All2 r l1 v1 ∧ All2 r l2 v2
  | [], l2, vs, h => ⟨[], vs, rfl, trivial, h⟩
  | x :: l1, l2, [], h => h.elim
  | x :: l1, l2, v :: vs, h => by
    obtain ⟨v1, v2, rfl, h1, h2⟩ := all2_split h.2
    exact ⟨v :: v1, v2, rfl, ⟨h.1, h1⟩, h2⟩
theorem sv_back {cx : Cx} {w : World} : ∀ {t : Ty} {vs : List Value} {x : t.den}, All2 (VL cx w) (t.sv x) vs → Rd w cx.S t vs x
  | .int k, [v], x, h => by
    have : v = .int k x := h.1
    subst this; rfl
  | .int k, [], x, h => h.elim
  | .int k, _ :: _ :: _, x, h => h.2.elim
  | .bool, [v], x, h => by
    have : v = .bool x := h.1
    subst this; rfl
  | .bool, [], x, h => h.elim
  | .bool, _ :: _ :: _, x, h => h.2.elim
  | .str, [v], x, h => by
    have : v = .string x := h.1
    subst this; rfl
  | .str, [], x, h => h.elim
  | .str, _ :: _ :: _, x, h => h.2.elim
  | .pair a b, vs, x, h => by
    obtain ⟨v1, v2, rfl, h1, h2⟩ := all2_split h
    exact ⟨v1, v2, rfl, sv_back h1, sv_back h2⟩
  | .slice E e, [v], x, h => h.1
  | .slice E e, [], x, h => h.elim
  | .slice E e, _ :: _ :: _, x, h => h.2.elim

/-- a box of the call's own -/
def BoxAt (S : Nat → Prop) (w : World) (t : Ty) (g : Nat) (x : t.den) : Prop :=
  ¬ S g ∧ g < w.heap.size ∧ ∃ cur T, w.heap[g]? = some (.cells cur T (0, 0)) ∧ Rd w S t cur.toList x

theorem rh_start [Laid] {w : World} {S : Nat → Prop} (hS : ∀ b, S b → b < w.heap.size) (hl : Laid.ok w) : RH ⟨w, S, fun _ => False, 0⟩ 0 (fun _ => none) (cx0 S) w :=
  ⟨fun n o hn => by (cases hn), fun n o hn => by (cases hn), fun n _ => rfl, fun n m o o' hn => by (cases hn), fun n o hn => by (cases hn), fun n o b hn => by (cases hn), hS, fun b hb => .inl hb, rfl, rfl, rfl, Nat.le_refl _, fun _ _ _ => rfl, hl, fun _ _ h => h⟩

theorem below_of [Laid] {w w' : World} {S : Nat → Prop} {N : Nat} {H : Heap} {cx : Cx} (h : RH ⟨w, S, fun _ => False, 0⟩ N H cx w') : Below w.heap.size w w' :=
  ⟨h.os, h.tape, h.output, h.size, fun b hb => h.block b hb fun h => h⟩
theorem s_new [Laid] {w w' : World} {S lent : Nat → Prop} {N k : Nat} {H : Heap} {cx : Cx} (h : RH ⟨w, S, lent, k⟩ N H cx w') : ∀ b, cx.S b → NW S w w' b := fun b hb =>
  (h.sg b hb).imp id fun h2 => ⟨h2, h.ss b hb⟩
theorem row_rd [Laid] {w w' : World} {S : Nat → Prop} {N n : Nat} {H : Heap} {cx : Cx} (h : RH ⟨w, S, fun _ => False, 0⟩ N H cx w') {E : TypeId} {e : Ty} {d : Bool} {ver : Nat} {xs : List e.den} (hn : H n = some (.vec E e d ver xs)) :
    Rd w' (NW S w w') (.slice E e) [(cx.μ n).v] xs := by
  obtain ⟨_, _, _, hrow⟩ := h.ob n _ hn
  have hf : ∀ b ∈ (cx.μ n).foot, NW S w w' b := fun b hb => by
    obtain ⟨q1, q2, _⟩ := h.mine n _ b hn hb
    rcases q1 with q1 | ⟨_, q1⟩
    · exact .inr ⟨q1, q2⟩
    · exact q1.elim
  refine hrow.rd hf fun c x bs hb hE => ?_
  unfold El at hE
  split at hE
  · exact hE.rd fun b hbb => hf b (hb b hbb)
  · exact hE.1.mono (s_new h) fun _ _ => rfl

theorem use_rows2 [Laid] {P : Program} {g : FuncId} {E E1 E2 : TypeId} {e e1 e2 : Ty} {d1 d2 : Bool} {F : ({ params := [.val false (.slice E e)], res := [.row E1 e1 d1, .row E2 e2 d2] } : Sig).args → Option ({ params := [.val false (.slice E e)], res := [.row E1 e1 d1, .row E2 e2 d2] } : Sig).outs}
    (hc : Contract P g { params := [.val false (.slice E e)], res := [.row E1 e1 d1, .row E2 e2 d2] } F) {a : List e.den} {o1 : List e1.den} {o2 : List e2.den} (hF : F a = some (o1, o2)) {w : World} {S : Nat → Prop} (hS : ∀ b, S b → b < w.heap.size) (hl : Laid.ok w) {v : Value} (hv : Rd w S (.slice E e) [v] a) :
    Calls P g #[v] w fun ex w' => ∃ v1 v2, ex = .returned (.tuple #[v1, v2]) ∧ Below w.heap.size w w' ∧ Rd w' (NW S w w') (.slice E1 e1) [v1] o1 ∧ Rd w' (NW S w w') (.slice E2 e2) [v2] o2 := by
  have h0 := rh_start hS hl
  have hcall := hc.2 a (o1, o2) w S (fun _ => False) (cx0 S) [v] hF rfl (by
    have : (fun _ => none : Heap) = heapOf (initOf 0 [.val false (.slice E e)] a).2 := by funext k; cases k <;> rfl
    rw [this] at h0; exact h0) ⟨hv, trivial⟩
  refine hcall.mono fun ex w' he => ?_
  cases ex with
  | panicked c => exact he.elim
  | outgrown => exact he.elim
  | returned u =>
    obtain ⟨cx', hv', hr', _⟩ := he
    have hv2 : VR cx' w' (.tup [(false, [.ref 0]), (false, [.ref 1])]) u := hv'
    obtain ⟨vs, rfl, h⟩ := hv2
    have hr : RH ⟨w, S, fun _ => False, 0⟩ 2 (heapOf [.vec E1 e1 d1 0 o1, .vec E2 e2 d2 0 o2]) cx' w' := hr'
    match vs, h with
    | [x1, x2], h =>
      obtain ⟨c1, q1, p1⟩ := h.1
      obtain ⟨c2, q2, p2⟩ := h.2.1
      simp only [List.cons.injEq, and_true] at q1 q2
      subst q1 q2
      have g1 : x1 = (cx'.μ 0).v := p1.1
      have g2 : x2 = (cx'.μ 1).v := p2.1
      exact ⟨x1, x2, rfl, below_of hr, by rw [g1]; exact row_rd hr rfl, by rw [g2]; exact row_rd hr rfl⟩
    | [], h => exact h.elim
    | [_], h => exact h.2.elim
    | _ :: _ :: _ :: _, h => exact h.2.2.elim

theorem use_deep [Laid] {P : Program} {g : FuncId} {E E1 : TypeId} {e e1 : Ty} {F : ({ params := [.val false (.slice E e)], res := [.row E1 e1 true] } : Sig).args → Option ({ params := [.val false (.slice E e)], res := [.row E1 e1 true] } : Sig).outs}
    (hc : Contract P g { params := [.val false (.slice E e)], res := [.row E1 e1 true] } F) {a : List e.den} {o1 : List e1.den} (hF : F a = some o1) {w : World} {S : Nat → Prop} (hS : ∀ b, S b → b < w.heap.size) (hl : Laid.ok w) {v : Value} (hv : Rd w S (.slice E e) [v] a) :
    Calls P g #[v] w fun ex w' => ∃ v1 foot, ex = .returned v1 ∧ Below w.heap.size w w' ∧ Row1 w' E1 e1.size (Ow w' e1) v1 o1 foot ∧ foot.Nodup ∧ (∀ b ∈ foot, w.heap.size ≤ b ∧ b < w'.heap.size) ∧ ∃ A l c, v1 = .slice A l c := by
  have h0 := rh_start hS hl
  have hcall := hc.2 a o1 w S (fun _ => False) (cx0 S) [v] hF rfl (by
    have : (fun _ => none : Heap) = heapOf (initOf 0 [.val false (.slice E e)] a).2 := by funext k; cases k <;> rfl
    rw [this] at h0; exact h0) ⟨hv, trivial⟩
  refine hcall.mono fun ex w' he => ?_
  cases ex with
  | panicked c => exact he.elim
  | outgrown => exact he.elim
  | returned u =>
    obtain ⟨cx', hv', hr', _⟩ := he
    have hv2 : VR cx' w' (.lf (.ref 0)) u := hv'
    have hr : RH ⟨w, S, fun _ => False, 0⟩ 1 (heapOf [.vec E1 e1 true 0 o1]) cx' w' := hr'
    obtain ⟨g1, g2⟩ := hv2
    obtain ⟨_, _, _, hrow⟩ := hr.ob 0 (.vec E1 e1 true 0 o1) rfl
    refine ⟨u, (cx'.μ 0).foot, rfl, below_of hr, ?_, hr.nd 0 (.vec E1 e1 true 0 o1) rfl, fun b hb => ?_, g2⟩
    · rw [g1]; exact hrow
    · obtain ⟨q1, q2, _⟩ := hr.mine 0 (.vec E1 e1 true 0 o1) b rfl hb
      rcases q1 with q1 | ⟨_, q1⟩
      · exact ⟨q1, q2⟩
      · exact q1.elim

theorem use_ptr [Laid] {P : Program} {g : FuncId} {E : TypeId} {e t : Ty} {F : ({ params := [.val false (.slice E e)], res := [.ptr t] } : Sig).args → Option ({ params := [.val false (.slice E e)], res := [.ptr t] } : Sig).outs}
    (hc : Contract P g { params := [.val false (.slice E e)], res := [.ptr t] } F) {a : List e.den} {o1 : t.den} (hF : F a = some o1) {w : World} {S : Nat → Prop} (hS : ∀ b, S b → b < w.heap.size) (hl : Laid.ok w) {v : Value} (hv : Rd w S (.slice E e) [v] a) :
    Calls P g #[v] w fun ex w' => ∃ g1 S', ex = .returned (.pointer (some ⟨g1, 0, none⟩)) ∧ Below w.heap.size w w' ∧ w.heap.size ≤ g1 ∧ BoxAt S' w' t g1 o1 ∧ (∀ b, S' b → NW S w w' b) := by
  have h0 := rh_start hS hl
  have hcall := hc.2 a o1 w S (fun _ => False) (cx0 S) [v] hF rfl (by
    have : (fun _ => none : Heap) = heapOf (initOf 0 [.val false (.slice E e)] a).2 := by funext k; cases k <;> rfl
    rw [this] at h0; exact h0) ⟨hv, trivial⟩
  refine hcall.mono fun ex w' he => ?_
  cases ex with
  | panicked c => exact he.elim
  | outgrown => exact he.elim
  | returned u =>
    obtain ⟨cx', hv', hr', _⟩ := he
    have hv2 : VR cx' w' (.lf (.ptr 0 0)) u := hv'
    have hr : RH ⟨w, S, fun _ => False, 0⟩ 1 (heapOf [.box (t.sv o1)]) cx' w' := hr'
    obtain ⟨g0, g1, g2⟩ := hv2
    obtain ⟨g, cur, T, p1, p2, p3, p4⟩ := hr.ob 0 (.box (t.sv o1)) rfl
    rw [g1] at p1
    simp only [Value.pointer.injEq, Option.some.injEq, Addr.mk.injEq, and_true] at p1
    subst p1
    obtain ⟨q1, q2, q3⟩ := hr.mine 0 (.box (t.sv o1)) g0 rfl (by rw [p2]; simp)
    have q1' : w.heap.size ≤ g0 := by
      rcases q1 with q1 | ⟨_, q1⟩
      · exact q1
      · exact q1.elim
    exact ⟨g0, cx'.S, by rw [g2], below_of hr, q1', ⟨q3, q2, cur, T, p3, sv_back p4⟩, s_new hr⟩

/-- a call that writes a box -/
theorem use_io [Laid] {P : Program} {g : FuncId} {t T2 : Ty} {F : ({ params := [.ioptr t, .val false T2], res := [.val false (.int .i64)] } : Sig).args → Option ({ params := [.ioptr t, .val false T2], res := [.val false (.int .i64)] } : Sig).outs}
    (hc : Contract P g { params := [.ioptr t, .val false T2], res := [.val false (.int .i64)] } F) {x : t.den} {y : T2.den} {n : Int} {x' : t.den} (hF : F (x, y) = some (n, x')) {w : World} {S : Nat → Prop} (hS : ∀ b, S b → b < w.heap.size) (hl : Laid.ok w) {g1 : Nat} (hb : BoxAt S w t g1 x) (hnl : ∀ b, Laid.blk b → b ≠ g1) {v2 : Value} (hv : VR (cx0 S) w (pack false (T2.sv y)) v2) (hone : ∃ c, T2.sv y = [c]) :
    Calls P g #[.pointer (some ⟨g1, 0, none⟩), v2] w fun ex w' => ∃ S', ex = .returned (.int .i64 n) ∧ w'.os = w.os ∧ w'.tape = w.tape ∧ w'.output = w.output ∧ w.heap.size ≤ w'.heap.size ∧ (∀ b, b < w.heap.size → b ≠ g1 → Same w w' b) ∧ BoxAt S' w' t g1 x' ∧ (∀ b, S' b → NW S w w' b) := by
  obtain ⟨hb1, hb2, cur, T, hb3, hb4⟩ := hb
  let cx1 : Cx := ⟨S, fun m => if m = 0 then ⟨.pointer (some ⟨g1, 0, none⟩), 0, 0, 0, [g1]⟩ else noRO⟩
  have hH : ∀ {m o}, heapOf [Ob.box (t.sv x)] m = some o → m = 0 ∧ o = .box (t.sv x) := fun {m o} h => by
    cases m with
    | zero => exact ⟨rfl, (Option.some.inj h).symm⟩
    | succ m => simp [heapOf] at h
  have h1 : RH ⟨w, S, (· = g1), 1⟩ 1 (heapOf [.box (t.sv x)]) cx1 w := by
    refine ⟨fun m o hmo => ?_, fun m o hmo => ?_, fun m hmo => ?_, fun m k o o' hmo hko hne => ?_, fun m o hmo => ?_, fun m o b hmo hbm => ?_, hS, fun b hb => .inl hb, rfl, rfl, rfl, Nat.le_refl _, fun _ _ _ => rfl, hl, fun b hb h => hnl b hb h⟩
    · obtain ⟨rfl, rfl⟩ := hH hmo
      exact ⟨g1, cur, T, rfl, rfl, hb3, sv_sound (cx := cx1) hb4⟩
    · obtain ⟨rfl, rfl⟩ := hH hmo; exact Nat.zero_lt_one
    · cases m with
      | zero => cases hmo
      | succ m => rfl
    · obtain ⟨rfl, rfl⟩ := hH hmo; obtain ⟨rfl, rfl⟩ := hH hko; exact absurd rfl hne
    · obtain ⟨rfl, rfl⟩ := hH hmo; show [g1].Nodup; simp
    · obtain ⟨rfl, rfl⟩ := hH hmo
      have : b = g1 := by simpa [cx1] using hbm
      subst this
      exact ⟨.inr ⟨Nat.zero_lt_one, rfl⟩, hb2, hb1⟩
  have hcall := hc.2 (x, y) (n, x') w S (· = g1) cx1 [.pointer (some ⟨g1, 0, none⟩), v2] hF rfl h1 ⟨⟨g1, rfl, rfl⟩, by
    obtain ⟨c, hc⟩ := hone
    show VR cx1 w (pack false (T2.sv y)) v2
    have hn := sv_names (t := T2) y
    exact VR.alone (cx := cx0 S) (cx1 := cx1) rfl (by rw [hc] at hn ⊢; simpa [pack, SV.names] using hn) hv, trivial⟩
  refine hcall.mono fun ex w' he => ?_
  cases ex with
  | panicked c => exact he.elim
  | outgrown => exact he.elim
  | returned u =>
    obtain ⟨cx', hv', hr', hk⟩ := he
    have hv2 : u = .int .i64 n := hv'
    subst hv2
    have hr : RH ⟨w, S, (· = g1), 1⟩ 1 (heapOf [.box (t.sv x')]) cx' w' := hr'
    obtain ⟨g, cur2, T2', p1, p2, p3, p4⟩ := hr.ob 0 (.box (t.sv x')) rfl
    have hk0 : (cx'.μ 0).v = .pointer (some ⟨g1, 0, none⟩) := hk 0 Nat.zero_lt_one
    rw [hk0] at p1
    simp only [Value.pointer.injEq, Option.some.injEq, Addr.mk.injEq, and_true] at p1
    subst p1
    obtain ⟨q1, q2, q3⟩ := hr.mine 0 (.box (t.sv x')) g1 rfl (by rw [p2]; simp)
    exact ⟨cx'.S, rfl, hr.os, hr.tape, hr.output, hr.size, fun b hb hne => hr.block b hb hne, ⟨q3, q2, cur2, T2', p3, sv_back p4⟩, s_new hr⟩

/-- two values that stay as they are -/
theorem ext_vals2 [Laid] {P : Program} {f : FuncId} {E E1 E2 : TypeId} {e e1 e2 : Ty} (hent : Enterable P f) {F : List e.den → Option (List e1.den × List e2.den)}
    (h1 : ∀ (a : List e.den) (o : List e1.den × List e2.den) (w : World) (S : Nat → Prop) (v : Value), F a = some o → (∀ b, S b → b < w.heap.size) → Laid.ok w → Rd w S (.slice E e) [v] a →
      Calls P f #[v] w fun ex w' => ∃ v1 v2, ex = .returned (.tuple #[v1, v2]) ∧ Below w.heap.size w w' ∧ Rd w' (NW S w w') (.slice E1 e1) [v1] o.1 ∧ Rd w' (NW S w w') (.slice E2 e2) [v2] o.2) :
    Contract P f { params := [.val false (.slice E e)], res := [.val false (.slice E1 e1), .val false (.slice E2 e2)] } (fun a => F a) := by
  refine ⟨hent, fun a out w S lent cx vals hF hS h hv => ?_⟩
  have hh := rh_none h rfl fun n => by cases n <;> rfl
  match vals, hv with
  | [v], hv =>
    have hrd : Rd w cx.S (.slice E e) [v] (show List e.den from a) := hv.1
    rw [hS] at hrd
    have hss : ∀ b, S b → b < w.heap.size := fun b hb => hh.ss b (by rw [hS]; exact hb)
    refine (h1 a out w S v hF hss hh.now hrd).mono fun ex w' he => ?_
    obtain ⟨v1, v2, rfl, hb, r1, r2⟩ := he
    refine ⟨{ cx with S := NW S w w' }, ?_, ?_, fun k hk => absurd hk (Nat.not_lt_zero k)⟩
    · show VR { cx with S := NW S w w' } w' (.tup [(false, [.sl E1 e1 out.1]), (false, [.sl E2 e2 out.2])]) _
      exact ⟨[v1, v2], rfl, ⟨_, rfl, r1⟩, ⟨_, rfl, r2⟩, trivial⟩
    · have hb2 := rh_below hh hb
      have key : RH ⟨w, S, lent, 0⟩ 0 (fun _ => none) { cx with S := NW S w w' } w' := by
        refine ⟨fun n o hn => by (cases hn), fun n o hn => by (cases hn), fun n hn => hb2.dead n rfl, fun n m o o' hn => by (cases hn), fun n o hn => by (cases hn), fun n o b hn => by (cases hn), fun b hbs => ?_, fun b hbs => ?_, hb2.os, hb2.tape, hb2.output, hb2.size, hb2.block, hb2.laid⟩
        · rcases hbs with hbs | hbs
          · exact Nat.lt_of_lt_of_le (hss b hbs) hb.size
          · exact hbs.2
        · rcases hbs with hbs | hbs
          · exact hh.sg b (by rw [hS]; exact hbs)
          · exact .inr hbs.1
      exact key
end Go.Sh

namespace Go.Sh
open Go Go.RowKit
def N.pairsB (xs : List (List Int)) : Bool := xs.all fun p => decide (p.length = 2)
/-- the first row with 1 behind it -/
def N.oldApp (xs : List (List Int)) : List (List Int) := xs.set 0 (xs.getD 0 [] ++ [1])
/-- the first row's second number -/
def N.oldSet (xs : List (List Int)) (v : Int) : List (List Int) := xs.set 0 ((xs.getD 0 []).set 1 v)
theorem Rd.len1 {w : World} {S : Nat → Prop} {E : TypeId} {e : Ty} {v : Value} {xs : List e.den} (h : Rd w S (.slice E e) [v] xs) : ∃ A c, v = .slice A xs.length c := by
  obtain ⟨A, c, e1, _⟩ := h
  simp only [List.cons.injEq, and_true] at e1
  exact ⟨A, c, e1⟩
theorem NW.mono {S : Nat → Prop} {w w1 w2 : World} (h : w1.heap.size ≤ w2.heap.size) : ∀ b, NW S w w1 b → NW S w w2 b := fun b hb => hb.imp id fun h2 => ⟨h2.1, Nat.lt_of_lt_of_le h2.2 h⟩
theorem NW.trans {S S' : Nat → Prop} {w w1 w2 : World} (h1 : ∀ b, S' b → NW S w w1 b) (h0 : w.heap.size ≤ w1.heap.size) (h : w1.heap.size ≤ w2.heap.size) : ∀ b, NW S' w1 w2 b → NW S w w2 b := fun b hb => by
  rcases hb with hb | ⟨h2, h3⟩
  · exact NW.mono h b (h1 b hb)
  · exact .inr ⟨Nat.le_trans h0 h2, h3⟩
theorem NW.lt {S : Nat → Prop} {w w1 : World} (hS : ∀ b, S b → b < w.heap.size) (h : w.heap.size ≤ w1.heap.size) : ∀ b, NW S w w1 b → b < w1.heap.size := fun b hb => by
  rcases hb with hb | ⟨_, hb⟩
  · exact Nat.lt_of_lt_of_le (hS b hb) h
  · exact hb
theorem laid_now [Laid] {w w' : World} (hl : Laid.ok w) (hb : Below w.heap.size w w') : Laid.ok w' := Laid.keep _ _ hl fun b hbb => hb.block b (Laid.lt _ _ hl hbb)
theorem rd_below {w w1 w2 : World} {S : Nat → Prop} (hS : ∀ b, S b → b < w1.heap.size) (hb : Below w1.heap.size w1 w2) {t : Ty} {cs : List Value} {x : t.den} (h : Rd w1 S t cs x) {S' : Nat → Prop} (hs : ∀ b, S b → S' b) : Rd w2 S' t cs x :=
  h.mono hs fun b hbS => hb.block b (hS b hbS)
end Go.Sh

namespace Go.Sh
open Go Go.RowKit

/-! ## A row of rows of ints, cell by cell -/
abbrev IT : Ty := .int .i64
structure Deep (w : World) (E : TypeId) (g cap : Nat) (s : Nat → Value) (fs : Nat → List Nat) (xs : List (List Int)) : Prop where
  le : xs.length ≤ cap
  gl : g < w.heap.size
  ht : ∃ cur, w.heap[g]? = some (.cells cur E (0, 0))
  cell : ∀ i, i < xs.length → w.cell? ⟨g, i, none⟩ = some (s i)
  fr : ∀ i, w.frozen? ⟨g, i, none⟩ = false
  row : ∀ i (h : i < xs.length), Row1 w 3 1 (Ow w IT) (s i) xs[i] (fs i)
  ng : ∀ i, i < xs.length → g ∉ fs i
  dj : ∀ i j, i < xs.length → j < xs.length → i ≠ j → ∀ b ∈ fs i, b ∉ fs j

theorem frozen_zero {w : World} {g : Nat} {cur : Array Value} {T : TypeId} (h : w.heap[g]? = some (.cells cur T (0, 0))) (i : Nat) : w.frozen? ⟨g, i, none⟩ = false := by
  simp [World.frozen?, h]

theorem flat_nodup {α : Type} : ∀ {l : List (List α)}, l.flatten.Nodup → ∀ i j (hi : i < l.length) (hj : j < l.length), i ≠ j → ∀ b ∈ l[i], b ∉ l[j]
  | [], _, i, j, hi, _, _, _, _ => by simp at hi
  | x :: l, h, 0, 0, _, _, hne, _, _ => absurd rfl hne
  | x :: l, h, 0, j + 1, _, hj, _, b, hb => by
    have hj' : j < l.length := by simpa using hj
    rw [List.flatten_cons, List.nodup_append] at h
    intro hb2
    exact h.2.2 b hb b (List.mem_flatten.2 ⟨l[j], List.getElem_mem _, hb2⟩) rfl
  | x :: l, h, i + 1, 0, hi, _, _, b, hb => by
    have hi' : i < l.length := by simpa using hi
    rw [List.flatten_cons, List.nodup_append] at h
    intro hb2
    exact h.2.2 b hb2 b (List.mem_flatten.2 ⟨l[i], List.getElem_mem _, hb⟩) rfl
  | x :: l, h, i + 1, j + 1, hi, hj, hne, b, hb => by
    rw [List.flatten_cons, List.nodup_append] at h
    exact flat_nodup h.2.1 i j (by simpa using hi) (by simpa using hj) (by omega) b hb

theorem all3_at {α β γ : Type} {r : α → β → γ → Prop} : ∀ {x : List α} {y : List β} {z : List γ}, All3 r x y z → ∀ i (h : i < y.length), ∃ (h1 : i < x.length) (h2 : i < z.length), r x[i] y[i] z[i]
  | [], [], [], _, i, h => by simp at h
  | a :: x, b :: y, c :: z, h, 0, _ => ⟨by simp, by simp, h.1⟩
  | a :: x, b :: y, c :: z, h, i + 1, hi => by
    obtain ⟨h1, h2, h3⟩ := all3_at h.2 i (by simpa using hi)
    exact ⟨by simpa using h1, by simpa using h2, h3⟩
  | [], _ :: _, _, h, _, _ => h.elim
  | _ :: _, [], _, h, _, _ => h.elim
  | _ :: _, _ :: _, [], h, _, _ => h.elim
  | [], [], _ :: _, h, _, _ => h.elim

theorem flatten_one {α : Type} (d : α) : ∀ {l : List (List α)}, (∀ x ∈ l, x.length = 1) → ∀ i (h : i < l.length), l.flatten[i]? = some (l[i].headD d)
  | [], _, i, h => by simp at h
  | x :: l, hl, i, h => by
    have hx := hl x (by simp)
    match x, hx with
    | [a], _ =>
      cases i with
      | zero => rfl
      | succ i =>
        have := flatten_one d (l := l) (fun y hy => hl y (by simp [hy])) i (by simpa using h)
        simpa using this

theorem deep_of {w : World} {E : TypeId} {v : Value} {xs : List (List Int)} {foot : List Nat} (h : Row1 w E 1 (Ow w (.slice 3 IT)) v xs foot) (hn : foot.Nodup) (hx : xs ≠ []) :
    ∃ g cap s fs, v = .slice (some ⟨g, 0, none⟩) xs.length cap ∧ g ∈ foot ∧ (∀ i, i < xs.length → ∀ b ∈ fs i, b ∈ foot) ∧ Deep w E g cap s fs xs := by
  rcases h with ⟨h, _⟩ | ⟨g, cap, cur, css, bss, h1, h2, h3, h4, h5, h6, h7, h8⟩
  · exact absurd h hx
  have hg : g < w.heap.size := by
    false_or_by_contra
    rw [Array.getElem?_eq_none (by omega)] at h2
    cases h2
  have hl := h8.len
  subst h7
  rw [List.nodup_cons] at hn
  have hat : ∀ i (hi : i < xs.length), ∃ (a1 : i < css.length) (a2 : i < bss.length), ∃ u, css[i] = [u] ∧ Row1 w 3 1 (Ow w IT) u xs[i] bss[i] := fun i hi => by
    obtain ⟨a1, a2, a3⟩ := all3_at h8 i hi
    obtain ⟨u, e1, e2⟩ := a3
    exact ⟨a1, a2, u, e1, e2⟩
  refine ⟨g, cap, fun i => (css.getD i []).headD undef, fun i => bss.getD i [], h1, by simp, fun i hi b hb => ?_, h3, hg, ⟨cur, h2⟩, fun i hi => ?_, frozen_zero h2, fun i hi => ?_, fun i hi hb => ?_, fun i j hi hj hne b hb => ?_⟩
  · obtain ⟨a1, a2, u, e1, e2⟩ := hat i hi
    have hb : b ∈ bss[i] := by simpa [List.getD, a2] using hb
    exact List.mem_cons_of_mem _ (List.mem_flatten.2 ⟨bss[i], List.getElem_mem _, hb⟩)
  · obtain ⟨a1, a2, u, e1, e2⟩ := hat i hi
    have hone : ∀ x ∈ css, x.length = 1 := fun x hxx => by
      obtain ⟨k, hk, rfl⟩ := List.getElem_of_mem hxx
      obtain ⟨_, _, u', e1', _⟩ := hat k (by omega)
      rw [e1']; rfl
    have := flatten_one undef hone i a1
    rw [← h6, List.getElem?_take] at this
    rw [if_pos (by omega)] at this
    have e : css.getD i [] = css[i] := by simp [List.getD, a1]
    show w.cell? ⟨g, i, none⟩ = some ((css.getD i []).headD undef)
    rw [e, ← this]
    simp [World.cell?, h2]
  · obtain ⟨a1, a2, u, e1, e2⟩ := hat i hi
    have e : css.getD i [] = [u] := by simp [List.getD, a1, e1]
    have e' : bss.getD i [] = bss[i] := by simp [List.getD, a2]
    show Row1 w 3 1 (Ow w IT) ((css.getD i []).headD undef) xs[i] (bss.getD i [])
    rw [e, e']; exact e2
  · obtain ⟨a1, a2, u, e1, e2⟩ := hat i hi
    have hb : g ∈ bss[i] := by simpa [List.getD, a2] using hb
    exact hn.1 (List.mem_flatten.2 ⟨bss[i], List.getElem_mem _, hb⟩)
  · obtain ⟨a1, a2, _⟩ := hat i hi
    obtain ⟨b1, b2, _⟩ := hat j hj
    have hb : b ∈ bss[i] := by simpa [List.getD, a2] using hb
    have := flat_nodup hn.2 i j a2 b2 hne b hb
    simpa [List.getD, b2] using this

theorem Deep.mono {w w' : World} {E : TypeId} {g cap : Nat} {s : Nat → Value} {fs : Nat → List Nat} {xs : List (List Int)} (h : Deep w E g cap s fs xs) (hs : w.heap.size ≤ w'.heap.size) (hg : Same w w' g) (hf : ∀ i, i < xs.length → ∀ b ∈ fs i, Same w w' b) : Deep w' E g cap s fs xs :=
  ⟨h.le, Nat.lt_of_lt_of_le h.gl hs, h.ht.imp fun cur hc => Eq.trans hg hc, fun i hi => (Same.cell hg i none).trans (h.cell i hi), fun i => (World.frozen?_of_block (w := w) (w' := w') (a := ⟨g, i, none⟩) hg).trans (h.fr i), fun i hi => (h.row i hi).mono (hf i hi) fun c x bs hb ho => ho.mono fun b hbb => hf i hi b (hb b hbb), h.ng, h.dj⟩

theorem deep_rd {w : World} {F : Nat → Prop} {E : TypeId} {g cap : Nat} {xs : List (List Int)} (hle : xs.length ≤ cap) (hg : F g) (h : ∀ i (hi : i < xs.length), ∃ u, w.cell? ⟨g, i, none⟩ = some u ∧ Rd w F (.slice 3 IT) [u] xs[i]) : Rd w F (.slice E (.slice 3 IT)) [.slice (some ⟨g, 0, none⟩) xs.length cap] xs := by
  refine ⟨some ⟨g, 0, none⟩, cap, rfl, hle, fun i hi => ?_⟩
  obtain ⟨u, h1, h2⟩ := h i hi
  refine ⟨g, 0, [u], rfl, hg, fun j u' hu => ?_, h2⟩
  match j, hu with
  | 0, hu =>
    simp only [List.getElem?_cons_zero, Option.some.injEq] at hu
    subst hu
    show w.cell? ⟨g, 0 + i * 1 + 0, none⟩ = _
    rw [show 0 + i * 1 + 0 = i by omega]
    exact h1
  | j + 1, hu => simp at hu
theorem Deep.rd {w : World} {E0 : TypeId} {g cap : Nat} {s : Nat → Value} {fs : Nat → List Nat} {xs : List (List Int)} (h : Deep w E0 g cap s fs xs) {F : Nat → Prop} {E : TypeId} (hg : F g) (hf : ∀ i, i < xs.length → ∀ b ∈ fs i, F b) : Rd w F (.slice E (.slice 3 IT)) [.slice (some ⟨g, 0, none⟩) xs.length cap] xs :=
  deep_rd h.le hg fun i hi => ⟨s i, h.cell i hi, (h.row i hi).rd (hf i hi) fun c x bs hb ho => ho.rd fun b hbb => hf i hi b (hb b hbb)⟩

/-- the first inner row: two numbers -/
theorem Deep.first {w : World} {E : TypeId} {g cap : Nat} {s : Nat → Value} {fs : Nat → List Nat} {xs : List (List Int)} (h : Deep w E g cap s fs xs) (h0 : 0 < xs.length) {a b : Int} (hx : xs[0] = [a, b]) :
    ∃ b0 c0 cur, s 0 = .slice (some ⟨b0, 0, none⟩) 2 c0 ∧ fs 0 = [b0] ∧ w.heap[b0]? = some (.cells cur 3 (0, 0)) ∧ 2 ≤ c0 ∧ c0 ≤ maxLen ∧ cur.size = c0 ∧ cur.toList.take 2 = [.int .i64 a, .int .i64 b] := by
  have hr := h.row 0 h0
  rw [hx] at hr
  rcases hr with ⟨hn, _⟩ | ⟨b0, c0, cur, css, bss, h1, h2, h3, h4, h5, h6, h7, h8⟩
  · cases hn
  · match css, bss, h8 with
    | [x1, x2], [y1, y2], h8 =>
      obtain ⟨⟨p1, p2⟩, ⟨p3, p4⟩, _⟩ := h8
      have p1 : x1 = [Value.int .i64 a] := p1
      have p3 : x2 = [Value.int .i64 b] := p3
      subst p1 p2 p3 p4
      exact ⟨b0, c0, cur, h1, by rw [h7]; rfl, h2, h3, h4, by rw [h5]; omega, h6⟩
    | [], [], h8 => exact h8.elim
    | [], _ :: _, h8 => exact h8.elim
    | _ :: _, [], h8 => exact h8.elim
    | [_], [_], h8 => exact h8.2.elim
    | [_], _ :: _ :: _, h8 => exact h8.2.elim
    | _ :: _ :: _, [_], h8 => exact h8.2.elim
    | [_, _], _ :: _ :: _ :: _, h8 => exact h8.2.2.elim
    | _ :: _ :: _ :: _, [_, _], h8 => exact h8.2.2.elim
    | _ :: _ :: _ :: _, _ :: _ :: _ :: _, h8 => exact h8.2.2.elim

theorem same_set {w : World} {a : Addr} {u : Value} {k : Nat} (h : k ≠ a.block) : Same w (w.setCell a u) k := Below.heap_setCell w a u k h

theorem ints_rd {w : World} {F : Nat → Prop} {b c : Nat} {xs : List Int} (hF : F b) (hc : xs.length ≤ c) (h : ∀ i (hi : i < xs.length), w.cell? ⟨b, i, none⟩ = some (.int .i64 xs[i])) : Rd w F (.slice 3 IT) [.slice (some ⟨b, 0, none⟩) xs.length c] xs := by
  refine ⟨some ⟨b, 0, none⟩, c, rfl, hc, fun i hi => ⟨b, 0, [.int .i64 xs[i]], rfl, hF, fun j u hu => ?_, rfl⟩⟩
  match j, hu with
  | 0, hu =>
    simp only [List.getElem?_cons_zero, Option.some.injEq] at hu
    subst hu
    show w.cell? ⟨b, 0 + i * 1 + 0, none⟩ = _
    rw [show 0 + i * 1 + 0 = i by omega]
    exact h i hi
  | j + 1, hu => simp at hu

theorem two_cells {w : World} {b : Nat} {cur : Array Value} {E : TypeId} {x y : Value} (h : w.heap[b]? = some (.cells cur E (0, 0))) (ht : cur.toList.take 2 = [x, y]) : w.cell? ⟨b, 0, none⟩ = some x ∧ w.cell? ⟨b, 1, none⟩ = some y := by
  have h0 : cur[0]? = some x := by
    have := congrArg (·[0]?) ht
    simpa using this
  have h1 : cur[1]? = some y := by
    have := congrArg (·[1]?) ht
    simpa using this
  exact ⟨by simp [World.cell?, h, h0], by simp [World.cell?, h, h1]⟩

theorem oldSet_zero : ∀ {xs : List (List Int)} {a b n : Int} (h0 : 0 < xs.length) (hx : xs[0] = [a, b]) (hi : 0 < (N.oldSet xs n).length), (N.oldSet xs n)[0] = [a, n]
  | x :: r, a, b, n, _, hx, _ => by
    have hx : x = [a, b] := hx
    subst hx; rfl
  | [], _, _, _, h, _, _ => by simp at h
theorem oldSet_other : ∀ {xs : List (List Int)} {n : Int} {i : Nat} (h : i < xs.length) (h0 : ¬ i = 0) (hi : i < (N.oldSet xs n).length), (N.oldSet xs n)[i] = xs[i]
  | x :: r, n, i + 1, _, _, _ => rfl
  | x :: r, n, 0, _, h, _ => absurd rfl h
  | [], _, _, h, _, _ => by simp at h
theorem oldApp_zero : ∀ {xs : List (List Int)} {a b : Int} (h0 : 0 < xs.length) (hx : xs[0] = [a, b]) (hi : 0 < (N.oldApp xs).length), (N.oldApp xs)[0] = [a, b, 1]
  | x :: r, a, b, _, hx, _ => by
    have hx : x = [a, b] := hx
    subst hx; rfl
  | [], _, _, h, _, _ => by simp at h
theorem oldApp_other : ∀ {xs : List (List Int)} {i : Nat} (h : i < xs.length) (h0 : ¬ i = 0) (hi : i < (N.oldApp xs).length), (N.oldApp xs)[i] = xs[i]
  | x :: r, i + 1, _, _, _ => rfl
  | x :: r, 0, _, h, _ => absurd rfl h
  | [], _, h, _, _ => by simp at h

theorem Deep.set {w : World} {E : TypeId} {g cap : Nat} {s : Nat → Value} {fs : Nat → List Nat} {xs : List (List Int)} (h : Deep w E g cap s fs xs) (h0 : 0 < xs.length) {a b n : Int} (hx : xs[0] = [a, b]) {b0 c0 : Nat} (hs : s 0 = .slice (some ⟨b0, 0, none⟩) 2 c0) {F : Nat → Prop} {E' : TypeId} (hg : F g) (hf : ∀ i, i < xs.length → ∀ b ∈ fs i, F b) :
    Rd (w.setCell ⟨b0, 1, none⟩ (.int .i64 n)) F (.slice E' (.slice 3 IT)) [.slice (some ⟨g, 0, none⟩) xs.length cap] (N.oldSet xs n) := by
  obtain ⟨b1, c1, cur, e1, e2, e3, e4, e5, e6, e7⟩ := h.first h0 hx
  rw [hs] at e1
  simp only [Value.slice.injEq, Option.some.injEq, Addr.mk.injEq, and_true, true_and] at e1
  obtain ⟨rfl, rfl⟩ := e1
  have hl : (N.oldSet xs n).length = xs.length := by unfold N.oldSet; simp
  have hb0 : b0 ∈ fs 0 := by rw [e2]; simp
  have hgb : g ≠ b0 := fun e => h.ng 0 h0 (by rw [e]; exact hb0)
  obtain ⟨t0, t1⟩ := two_cells e3 e7
  rw [← hl]
  refine deep_rd (by rw [hl]; exact h.le) hg fun i hi => ⟨s i, ?_, ?_⟩
  · rw [(same_set (w := w) (a := ⟨b0, 1, none⟩) hgb).cell]
    exact h.cell i (by omega)
  · by_cases hi0 : i = 0
    · subst hi0
      have e : (N.oldSet xs n)[0] = [a, n] := oldSet_zero h0 hx hi
      rw [e, hs]
      refine ints_rd (xs := [a, n]) (hf 0 h0 b0 hb0) e4 fun j hj => ?_
      match j, hj with
      | 0, _ =>
        rw [World.cell?_setCell_other _ _ _ _ (by simp)]; exact t0
      | 1, _ => exact World.cell?_setCell_same _ _ _ t1
      | j + 2, hj => simp at hj; omega
    · have e : (N.oldSet xs n)[i] = xs[i]'(by omega) := oldSet_other (by omega) hi0 hi
      rw [e]
      have hi' : i < xs.length := by omega
      have hsame : ∀ b ∈ fs i, Same w (w.setCell ⟨b0, 1, none⟩ (.int .i64 n)) b := fun b hb => same_set fun e => h.dj 0 i h0 hi' (by omega) b0 hb0 (by have e' : b = b0 := e; rw [← e']; exact hb)
      exact ((h.row i hi').mono hsame fun c x bs hb ho => ho.mono fun b hbb => hsame b (hb b hbb)).rd (hf i hi') fun c x bs hb ho => ho.rd fun b hbb => hf i hi' b (hb b hbb)

/-- a row of ints of the call's own -/
theorem own_ints_rd {w : World} {base : Nat} {v : Value} {zs : List Int} {F : Nat → Prop} (h : w.ownsRow base 3 1 v zs.length (zs.map (Value.int .i64))) (hn : zs ≠ []) (hF : ∀ b, base ≤ b → b < w.heap.size → F b) :
    ∃ g5 c5 cur, v = .slice (some ⟨g5, 0, none⟩) zs.length c5 ∧ base ≤ g5 ∧ g5 < w.heap.size ∧ w.heap[g5]? = some (.cells cur 3 (0, 0)) ∧ Rd w F (.slice 3 IT) [v] zs := by
  rcases h.2 with ⟨_, h1⟩ | ⟨g5, c5, cur, h1, h2, h3, h4, h5, h6, h7⟩
  · exact absurd (List.length_eq_zero_iff.1 h1) hn
  · have hlt : g5 < w.heap.size := by
      false_or_by_contra
      rw [Array.getElem?_eq_none (by omega)] at h3
      cases h3
    refine ⟨g5, c5, cur, h1, h2, hlt, h3, ?_⟩
    rw [h1]
    refine ints_rd (hF g5 h2 hlt) h4 fun i hi => ?_
    have h8 : (cur.toList.take zs.length)[i]? = some (.int .i64 zs[i]) := by
      have e := h7
      rw [Nat.mul_one] at e
      rw [e]; simp [hi]
    rw [List.getElem?_take, if_pos hi] at h8
    simp only [World.cell?, h3]
    simpa using h8

theorem Deep.app {w0 w : World} {E : TypeId} (hE : E ≠ 3) {g cap base : Nat} {s : Nat → Value} {fs : Nat → List Nat} {xs : List (List Int)} (h : Deep w0 E g cap s fs xs) (h0 : 0 < xs.length) {a b : Int} (hx : xs[0] = [a, b]) {b0 c0 : Nat} (hs : s 0 = .slice (some ⟨b0, 0, none⟩) 2 c0) (hgr : w0.grownBy w (some b0)) {v : Value} (hown : w.ownsRow base 3 1 v 3 [.int .i64 a, .int .i64 b, .int .i64 1])
    {F : Nat → Prop} {E' : TypeId} (hg : F g) (hf : ∀ i, i < xs.length → ∀ b ∈ fs i, b < w0.heap.size ∧ F b) (hF : ∀ b, base ≤ b → b < w.heap.size → F b) :
    w.cell? ⟨g, 0, none⟩ = some (.slice (some ⟨b0, 0, none⟩) 2 c0) ∧ w.frozen? ⟨g, 0, none⟩ = false ∧ (∃ A n c, v = .slice A n c) ∧ Rd (w.setCell ⟨g, 0, none⟩ v) F (.slice E' (.slice 3 IT)) [.slice (some ⟨g, 0, none⟩) xs.length cap] (N.oldApp xs) := by
  obtain ⟨b1, c1, cur, e1, e2, e3, e4, e5, e6, e7⟩ := h.first h0 hx
  rw [hs] at e1
  simp only [Value.slice.injEq, Option.some.injEq, Addr.mk.injEq, and_true, true_and] at e1
  obtain ⟨rfl, rfl⟩ := e1
  have hb0 : b0 ∈ fs 0 := by rw [e2]; simp
  have hgb : g ≠ b0 := fun e => h.ng 0 h0 (by rw [e]; exact hb0)
  have hsg : Same w0 w g := hgr.block g h.gl (by simpa using fun e => hgb e)
  have hcell : w.cell? ⟨g, 0, none⟩ = some (.slice (some ⟨b0, 0, none⟩) 2 c0) := (hsg.cell 0 none).trans ((h.cell 0 h0).trans (by rw [hs]))
  have hfr : w.frozen? ⟨g, 0, none⟩ = false := (World.frozen?_of_block (w := w0) (w' := w) (a := ⟨g, 0, none⟩) hsg).trans (h.fr 0)
  obtain ⟨g5, c5, cur5, v1, v2, v3, v4, v5⟩ := own_ints_rd (zs := [a, b, 1]) hown (by simp) hF
  have hg5 : g5 ≠ g := fun e => by
    obtain ⟨cg, hcg⟩ := h.ht
    have : w.heap[g]? = some (.cells cg E (0, 0)) := hsg.trans hcg
    rw [← e, v4] at this
    simp only [Option.some.injEq, Obj.cells.injEq] at this
    exact hE this.2.1.symm
  have hl : (N.oldApp xs).length = xs.length := by unfold N.oldApp; simp
  refine ⟨hcell, hfr, ⟨_, _, _, v1⟩, ?_⟩
  rw [← hl]
  refine deep_rd (by rw [hl]; exact h.le) hg fun i hi => ?_
  by_cases hi0 : i = 0
  · subst hi0
    refine ⟨v, World.cell?_setCell_same _ _ _ hcell, ?_⟩
    rw [oldApp_zero h0 hx hi, v1]
    obtain ⟨A, c, q1, q2, q3⟩ := v5
    rw [v1] at q1
    simp only [List.cons.injEq, Value.slice.injEq, and_true, true_and] at q1
    obtain ⟨rfl, rfl⟩ := q1
    refine ints_rd (xs := [a, b, 1]) (hF g5 v2 v3) q2 fun j hj => ?_
    obtain ⟨b', o', ci, r1, _, r3, r4⟩ := q3 j hj
    simp only [Option.some.injEq, Addr.mk.injEq, and_true] at r1
    obtain ⟨rfl, rfl⟩ := r1
    have r4 : ci = [Value.int .i64 ([a, b, 1][j])] := r4
    have r5 := r3 0 (.int .i64 ([a, b, 1][j])) (by rw [r4]; rfl)
    have r6 : (0 + j * Ty.size IT + 0 : Nat) = j := by show 0 + j * 1 + 0 = j; omega
    rw [r6] at r5
    rw [(same_set (w := w) (a := ⟨g, 0, none⟩) hg5).cell]
    exact r5
  · have hi' : i < xs.length := by omega
    have hsame : ∀ b ∈ fs i, Same w0 (w.setCell ⟨g, 0, none⟩ v) b := fun b hb => by
      have hbg : b ≠ g := fun e => h.ng i hi' (by rw [← e]; exact hb)
      have hbb : b ≠ b0 := fun e => h.dj 0 i h0 hi' (by omega) b0 hb0 (by rw [← e]; exact hb)
      have q1 : Same w0 w b := hgr.block b (hf i hi' b hb).1 (by simpa using fun e => hbb e)
      have q2 : Same w (w.setCell ⟨g, 0, none⟩ v) b := same_set hbg
      exact Eq.trans q2 q1
    refine ⟨s i, ?_, ?_⟩
    · rw [World.cell?_setCell_other _ _ _ _ (by intro e; cases e; exact hi0 rfl)]
      exact (hsg.cell i none).trans (h.cell i hi')
    · rw [oldApp_other hi' hi0 hi]
      exact ((h.row i hi').mono hsame fun c x bs hb ho => ho.mono fun b hbb => hsame b (hb b hbb)).rd (fun b hb => (hf i hi' b hb).2) fun c x bs hb ho => ho.rd fun b hbb => (hf i hi' b (hb b hbb)).2
end Go.Sh

namespace Go.Sh
open Go Go.RowKit

/-- what stands between the calls of a function that has made a row (below k), then a box and a row of rows of ints -/
structure Mid (S : Nat → Prop) (w : World) (k : Nat) {e1 : Ty} (E1 : TypeId) (ops : List e1.den) (olds : List (List Int)) (v1 : Value) (g g3 c : Nat) (s : Nat → Value) (fs : Nat → List Nat) (w4 : World) : Prop where
  bel : Below w.heap.size w w4
  k0 : w.heap.size ≤ k
  rd : Rd w4 (fun b => S b ∨ (w.heap.size ≤ b ∧ b < k)) (.slice E1 e1) [v1] ops
  kl : k ≤ w4.heap.size
  deep : Deep w4 26 g3 c s fs olds
  g3k : k ≤ g3
  fsk : ∀ i, i < olds.length → ∀ b ∈ fs i, k ≤ b ∧ b < w4.heap.size
  gk : k ≤ g
  g3g : g3 ≠ g
  fsg : ∀ i, i < olds.length → ∀ b ∈ fs i, b ≠ g
section
variable {S : Nat → Prop} {w : World} {k : Nat} {e1 : Ty} {E1 : TypeId} {ops : List e1.den} {olds : List (List Int)} {v1 : Value} {g g3 c : Nat} {s : Nat → Value} {fs : Nat → List Nat} {w4 w5 : World}
theorem Mid.step (hS : ∀ b, S b → b < w.heap.size) (h : Mid S w k E1 ops olds v1 g g3 c s fs w4) (h1 : w5.os = w4.os) (h2 : w5.tape = w4.tape) (h3 : w5.output = w4.output) (h4 : w4.heap.size ≤ w5.heap.size) (h5 : ∀ b, b < w4.heap.size → b ≠ g → Same w4 w5 b) : Mid S w k E1 ops olds v1 g g3 c s fs w5 := by
  have hk := h.k0; have hkl := h.kl; have hgk := h.gk
  refine ⟨⟨h1.trans h.bel.os, h2.trans h.bel.tape, h3.trans h.bel.output, Nat.le_trans h.bel.size h4, fun b hb => (h5 b (by omega) (by omega)).trans (h.bel.block b hb)⟩, h.k0, ?_, by omega, ?_, h.g3k, fun i hi b hb => ⟨(h.fsk i hi b hb).1, by have := (h.fsk i hi b hb).2; omega⟩, h.gk, h.g3g, h.fsg⟩
  · refine h.rd.mono (fun b hb => hb) fun b hb => ?_
    rcases hb with hb | hb
    · have := hS b hb; exact h5 b (by omega) (by omega)
    · exact h5 b (by omega) (by omega)
  · exact h.deep.mono h4 (h5 g3 h.deep.gl h.g3g) fun i hi b hb => h5 b (h.fsk i hi b hb).2 (h.fsg i hi b hb)
theorem Mid.nw (h : Mid S w k E1 ops olds v1 g g3 c s fs w4) : ∀ b, k ≤ b → b < w4.heap.size → NW S w w4 b := fun b h1 h2 => .inr ⟨Nat.le_trans h.k0 h1, h2⟩
theorem Mid.rd2 (h : Mid S w k E1 ops olds v1 g g3 c s fs w4) : Rd w4 (NW S w w4) (.slice E1 e1) [v1] ops :=
  h.rd.mono (fun b hb => hb.imp id fun h2 => ⟨h2.1, Nat.lt_of_lt_of_le h2.2 h.kl⟩) fun _ _ => rfl
theorem Mid.rd3 (h : Mid S w k E1 ops olds v1 g g3 c s fs w4) {E : TypeId} : Rd w4 (NW S w w4) (.slice E (.slice 3 IT)) [.slice (some ⟨g3, 0, none⟩) olds.length c] olds :=
  h.deep.rd (h.nw g3 h.g3k h.deep.gl) fun i hi b hb => h.nw b (h.fsk i hi b hb).1 (h.fsk i hi b hb).2
/-- a number of the first row is written -/
theorem Mid.set (hS : ∀ b, S b → b < w.heap.size) (h : Mid S w k E1 ops olds v1 g g3 c s fs w4) (h0 : 0 < olds.length) {a b n : Int} (hx : olds[0] = [a, b]) {b0 c0 : Nat} (hs : s 0 = .slice (some ⟨b0, 0, none⟩) 2 c0) {E : TypeId} :
    Below w.heap.size w (w4.setCell ⟨b0, 1, none⟩ (.int .i64 n)) ∧ Rd (w4.setCell ⟨b0, 1, none⟩ (.int .i64 n)) (NW S w (w4.setCell ⟨b0, 1, none⟩ (.int .i64 n))) (.slice E1 e1) [v1] ops ∧
      Rd (w4.setCell ⟨b0, 1, none⟩ (.int .i64 n)) (NW S w (w4.setCell ⟨b0, 1, none⟩ (.int .i64 n))) (.slice E (.slice 3 IT)) [.slice (some ⟨g3, 0, none⟩) olds.length c] (N.oldSet olds n) := by
  obtain ⟨b1, c1, cur, q1, q2, _⟩ := h.deep.first h0 hx
  rw [hs] at q1
  simp only [Value.slice.injEq, Option.some.injEq, Addr.mk.injEq, and_true, true_and] at q1
  obtain ⟨rfl, rfl⟩ := q1
  have hb := h.fsk 0 h0 b0 (by rw [q2]; simp)
  have hk := h.k0
  have hz : (w4.setCell ⟨b0, 1, none⟩ (.int .i64 n)).heap.size = w4.heap.size := by simp
  have hnw : ∀ b, NW S w w4 b → NW S w (w4.setCell ⟨b0, 1, none⟩ (.int .i64 n)) b := fun b hb => by unfold NW at hb ⊢; rw [hz]; exact hb
  refine ⟨h.bel.setCell (p := ⟨b0, 1, none⟩) (show w.heap.size ≤ b0 by omega) _, ?_, ?_⟩
  · refine h.rd.mono (fun b hb => hnw b (hb.imp id fun h2 => ⟨h2.1, Nat.lt_of_lt_of_le h2.2 h.kl⟩)) fun b hbb => same_set (show b ≠ b0 from fun e => ?_)
    rcases hbb with hbb | hbb
    · have := hS b hbb; omega
    · omega
  · exact h.deep.set h0 hx hs (hnw _ (h.nw g3 h.g3k h.deep.gl)) fun i hi b hb => hnw _ (h.nw b (h.fsk i hi b hb).1 (h.fsk i hi b hb).2)
/-- 1 behind the first row -/
theorem Mid.app (hS : ∀ b, S b → b < w.heap.size) (h : Mid S w k E1 ops olds v1 g g3 c s fs w4) (h0 : 0 < olds.length) {a b : Int} (hx : olds[0] = [a, b]) {b0 c0 : Nat} (hs : s 0 = .slice (some ⟨b0, 0, none⟩) 2 c0) (hgr : w4.grownBy w5 (some b0)) {v : Value} (hown : w5.ownsRow k 3 1 v 3 [.int .i64 a, .int .i64 b, .int .i64 1]) {E : TypeId} :
    w5.cell? ⟨g3, 0, none⟩ = some (.slice (some ⟨b0, 0, none⟩) 2 c0) ∧ w5.frozen? ⟨g3, 0, none⟩ = false ∧ (∃ A n c, v = .slice A n c) ∧ Below w.heap.size w (w5.setCell ⟨g3, 0, none⟩ v) ∧
      Rd (w5.setCell ⟨g3, 0, none⟩ v) (NW S w (w5.setCell ⟨g3, 0, none⟩ v)) (.slice E1 e1) [v1] ops ∧ Rd (w5.setCell ⟨g3, 0, none⟩ v) (NW S w (w5.setCell ⟨g3, 0, none⟩ v)) (.slice E (.slice 3 IT)) [.slice (some ⟨g3, 0, none⟩) olds.length c] (N.oldApp olds) := by
  obtain ⟨b1, c1, cur, q1, q2, _⟩ := h.deep.first h0 hx
  rw [hs] at q1
  simp only [Value.slice.injEq, Option.some.injEq, Addr.mk.injEq, and_true, true_and] at q1
  obtain ⟨rfl, rfl⟩ := q1
  have hb := h.fsk 0 h0 b0 (by rw [q2]; simp)
  have hk := h.k0
  have hkl := h.kl
  have hsz := hgr.size
  have hg3 := h.g3k
  have hz : (w5.setCell ⟨g3, 0, none⟩ v).heap.size = w5.heap.size := by simp
  have hnw : ∀ b, k ≤ b → b < w5.heap.size → NW S w (w5.setCell ⟨g3, 0, none⟩ v) b := fun b h1 h2 => .inr ⟨by omega, by rw [hz]; exact h2⟩
  obtain ⟨r1, r2, r3, r4⟩ := h.deep.app (E' := E) (F := NW S w (w5.setCell ⟨g3, 0, none⟩ v)) (by decide) h0 hx hs hgr hown (hnw g3 hg3 (by have := h.deep.gl; omega)) (fun i hi b hb => ⟨(h.fsk i hi b hb).2, hnw b (h.fsk i hi b hb).1 (by have := (h.fsk i hi b hb).2; omega)⟩) (fun b h1 h2 => hnw b h1 h2)
  have hb5 : Below w.heap.size w w5 := h.bel.grown hgr h.bel.size fun j hj => by cases hj; omega
  refine ⟨r1, r2, r3, hb5.setCell (p := ⟨g3, 0, none⟩) (show w.heap.size ≤ g3 by omega) _, ?_, r4⟩
  refine h.rd.mono (fun b hb => hb.imp id fun h2 => ⟨h2.1, by rw [hz]; omega⟩) fun b hbb => ?_
  have hlt : b < k := by
    rcases hbb with hbb | hbb
    · have := hS b hbb; omega
    · exact hbb.2
  exact (same_set (show b ≠ g3 by omega)).trans (hgr.block b (by omega) (by simp; omega))
end
end Go.Sh

