/- FnExactMovedBy returns true for every input, and each input reads as it did. No condition. -/
import Derived.Test.YtekclbjiifiahaaRows
import Derived.Test.YtekclbjiifiahaaPuFnExactMovedBy
import Derived.Test.YtekclbjiifiahaaEx
import Derived.WalkKit
import Derived.ProofKit
import Derived.ShutString
import Derived.SizedLaws
set_option linter.unusedVariables false
set_option maxRecDepth 100000
set_option maxHeartbeats 4000000
namespace Go.Proofs.Ytekclbjiifiahaa.SxFnExactMovedBy
open Go Go.Sh Go.RowKit
instance laid0 : Laid := ⟨fun _ => True, fun _ => False, fun _ _ _ h => h.elim, fun _ _ _ _ => trivial⟩
def y3 : Ty := .int .i64
def y4 : Ty := .bool
def y22 : Ty := .slice 3 y3
def y77 : Ty := .int .u64
def tab : List (TypeId × TI) := [(3, { size := 1, bytes := 8, agg := false, ty := some y3 }),
  (4, { size := 1, bytes := 1, agg := false, ty := some y4 }),
  (22, { size := 1, bytes := 24, agg := false, ty := some y22, elem := some 3 }),
  (77, { size := 1, bytes := 8, agg := false, ty := some y77 })]
def look : List (TypeId × TI) → TypeId → Option TI
  | [], _ => none
  | (k, i) :: r, t => if Nat.beq t k = true then some i else look r t
theorem look_ok {P : Program} : ∀ {l : List (TypeId × TI)}, (l.all fun p => tiOk P p.1 p.2) = true → ∀ t i, look l t = some i → tiOk P t i = true
  | [], _, t, i, h => by simp [look] at h
  | (k, j) :: r, h0, t, i, h => by
    simp only [List.all_cons, Bool.and_eq_true] at h0
    simp only [look] at h
    split at h
    · rename_i hk
      simp only [Option.some.injEq] at h
      have := Nat.eq_of_beq_eq_true hk
      subst this; subst h; exact h0.1
    · exact look_ok h0.2 t i h
theorem look_eq {P : Program} : ∀ {l : List (TypeId × TI)}, (l.all fun p => !p.2.eq || eqTop P p.1 p.2.ty) = true → ∀ t i, look l t = some i → i.eq = true → ∀ ty, i.ty = some ty → EqLaw P t ty.zero
  | [], _, t, i, h => by simp [look] at h
  | (k, j) :: r, h0, t, i, h => by
    simp only [List.all_cons, Bool.and_eq_true, Bool.or_eq_true, Bool.not_eq_true'] at h0
    simp only [look] at h
    split at h
    · rename_i hk
      simp only [Option.some.injEq] at h
      have := Nat.eq_of_beq_eq_true hk
      subst this; subst h
      intro he
      exact eqLaw_of (h0.1.resolve_left (by simp [he]))
    · exact look_eq h0.2 t i h
def same : List Nat → List Nat → Bool
  | [], [] => true
  | a :: x, b :: y => Nat.beq a b && same x y
  | _, _ => false
theorem same_eq : ∀ {x y : List Nat}, same x y = true → x = y
  | [], [], _ => rfl
  | a :: x, b :: y, h => by
    simp only [same, Bool.and_eq_true] at h
    rw [Nat.eq_of_beq_eq_true h.1, same_eq h.2]
  | [], _ :: _, h => by simp [same] at h
  | _ :: _, [], h => by simp [same] at h
def fns : List (FuncId × List FuncId × Entry) → FuncId → List FuncId → Option Entry
  | [], _, _ => none
  | (k, c, e) :: r, f, fs => if (Nat.beq f k && same fs c) = true then some e else fns r f fs
theorem fns_nil (P : Program) : ∀ f fs en, fns [] f fs = some en → Contract P f en.sig en.F := fun f fs en h => by simp [fns] at h
theorem fns_cons {P : Program} {k : FuncId} {c : List FuncId} {e : Entry} {r : List (FuncId × List FuncId × Entry)} (hk : Contract P k e.sig e.F) (hr : ∀ f fs en, fns r f fs = some en → Contract P f en.sig en.F) : ∀ f fs en, fns ((k, c, e) :: r) f fs = some en → Contract P f en.sig en.F := fun f fs en h => by
  simp only [fns] at h
  split at h
  · rename_i hf
    simp only [Bool.and_eq_true] at hf
    simp only [Option.some.injEq] at h
    have := Nat.eq_of_beq_eq_true hf.1
    subst this; subst h; exact hk
  · exact hr f fs en h

theorem tab_ti : ∀ t i, look tab t = some i → tiOk Try.prog t i = true := look_ok (by kernel_rfl)
theorem tab_eq : ∀ t i, look tab t = some i → i.eq = true → ∀ ty, i.ty = some ty → EqLaw Try.prog t ty.zero := look_eq (by kernel_rfl)
theorem mixed : Try.prog.follows .mixedOrders = true := by kernel_rfl
def s_laws_toIntS : Sig := { params := [.val false y22], res := [.row 3 y3 false] }
noncomputable def e_laws_toIntS : Entry := ⟨s_laws_toIntS, fun a => D.laws_toIntS a⟩
noncomputable def v_laws_toIntS : Env := { ti := look tab, Γ := fns [], loop := fun b => match b with | 0 => some [.slot 4 (.int .i64), .vec 3 3 y3 false] | _ => none, cut := fun _ => none, deep := fun _ => false }
theorem c_laws_toIntS : Contract Try.prog 11 e_laws_toIntS.sig e_laws_toIntS.F :=
  den_is (E := v_laws_toIntS) ⟨tab_ti, tab_eq⟩ (fns_nil _) mixed Try.func11 (by kernel_rfl) (by kernel_rfl) (fun x => by kernel_rfl)

def s_spec_l28Has : Sig := { params := [.val false y22, .val false y3], res := [.val false y4] }
noncomputable def e_spec_l28Has : Entry := ⟨s_spec_l28Has, fun a => D.spec_l28Has a.1 a.2⟩
noncomputable def v_spec_l28Has : Env := { ti := look tab, Γ := fns [], loop := fun b => match b with | 0 => some [.slot 5 (.int .i64)] | _ => none, cut := fun _ => none, deep := fun _ => false }
theorem c_spec_l28Has : Contract Try.prog 52 e_spec_l28Has.sig e_spec_l28Has.F :=
  den_is (E := v_spec_l28Has) ⟨tab_ti, tab_eq⟩ (fns_nil _) mixed Try.func52 (by kernel_rfl) (by kernel_rfl) (fun x => by kernel_rfl)

def s_spec_l1In : Sig := { params := [.val false y3, .val false y3, .val false y3], res := [.val false y4] }
noncomputable def e_spec_l1In : Entry := ⟨s_spec_l1In, fun a => D.spec_l1In a.1 a.2.1 a.2.2⟩
noncomputable def v_spec_l1In : Env := { ti := look tab, Γ := fns [], loop := fun _ => none, cut := fun _ => none, deep := fun _ => false }
theorem c_spec_l1In : Contract Try.prog 36 e_spec_l1In.sig e_spec_l1In.F :=
  den_is (E := v_spec_l1In) ⟨tab_ti, tab_eq⟩ (fns_nil _) mixed Try.func36 (by kernel_rfl) (by kernel_rfl) (fun x => by kernel_rfl)

def s_spec_Mod : Sig := { params := [.val false y3, .val false y3], res := [.val false y3] }
noncomputable def e_spec_Mod : Entry := ⟨s_spec_Mod, fun a => D.spec_Mod a.1 a.2⟩
noncomputable def v_spec_Mod : Env := { ti := look tab, Γ := fns [(36, [], e_spec_l1In)], loop := fun _ => none, cut := fun _ => none, deep := fun _ => false }
theorem c_spec_Mod : Contract Try.prog 97 e_spec_Mod.sig e_spec_Mod.F :=
  den_is (E := v_spec_Mod) ⟨tab_ti, tab_eq⟩ (fns_cons c_spec_l1In (fns_nil _)) mixed Try.func97 (by kernel_rfl) (by kernel_rfl) (fun x => by kernel_rfl)

def s_spec_Hash : Sig := { params := [.val false y22], res := [.val false y3] }
noncomputable def e_spec_Hash : Entry := ⟨s_spec_Hash, fun a => D.spec_Hash a⟩
noncomputable def v_spec_Hash : Env := { ti := look tab, Γ := fns [(97, [], e_spec_Mod)], loop := fun b => match b with | 0 => some [.slot 3 (.int .i64), .slot 4 (.int .i64)] | _ => none, cut := fun _ => none, deep := fun _ => false }
theorem c_spec_Hash : Contract Try.prog 98 e_spec_Hash.sig e_spec_Hash.F :=
  den_is (E := v_spec_Hash) ⟨tab_ti, tab_eq⟩ (fns_cons c_spec_Mod (fns_nil _)) mixed Try.func98 (by kernel_rfl) (by kernel_rfl) (fun x => by kernel_rfl)

def s_spec_RankOf : Sig := { params := [.val false y3, .val false y3], res := [.val false y3] }
noncomputable def e_spec_RankOf : Entry := ⟨s_spec_RankOf, fun a => D.spec_RankOf a.1 a.2⟩
noncomputable def v_spec_RankOf : Env := { ti := look tab, Γ := fns [(98, [], e_spec_Hash), (97, [], e_spec_Mod)], loop := fun _ => none, cut := fun _ => none, deep := fun _ => false }
theorem c_spec_RankOf : Contract Try.prog 75 e_spec_RankOf.sig e_spec_RankOf.F :=
  den_is (E := v_spec_RankOf) ⟨tab_ti, tab_eq⟩ (fns_cons c_spec_Hash (fns_cons c_spec_Mod (fns_nil _))) mixed Try.func75 (by kernel_rfl) (by kernel_rfl) (fun x => by kernel_rfl)

def s_spec_l28Before : Sig := { params := [.val false y3, .val false y3, .val false y3], res := [.val false y4] }
noncomputable def e_spec_l28Before : Entry := ⟨s_spec_l28Before, fun a => D.spec_l28Before a.1 a.2.1 a.2.2⟩
noncomputable def v_spec_l28Before : Env := { ti := look tab, Γ := fns [(75, [], e_spec_RankOf)], loop := fun _ => none, cut := fun _ => none, deep := fun _ => false }
theorem c_spec_l28Before : Contract Try.prog 53 e_spec_l28Before.sig e_spec_l28Before.F :=
  den_is (E := v_spec_l28Before) ⟨tab_ti, tab_eq⟩ (fns_cons c_spec_RankOf (fns_nil _)) mixed Try.func53 (by kernel_rfl) (by kernel_rfl) (fun x => by kernel_rfl)

def s_spec_OrderFor : Sig := { params := [.val false y22, .val false y3], res := [.row 3 y3 false] }
noncomputable def e_spec_OrderFor : Entry := ⟨s_spec_OrderFor, fun a => D.spec_OrderFor a.1 a.2⟩
noncomputable def v_spec_OrderFor : Env := { ti := look tab, Γ := fns [(52, [], e_spec_l28Has), (53, [], e_spec_l28Before)], loop := fun b => match b with | 0 => some [.slot 5 (.own 3 y3 false), .slot 6 (.int .i64)] | 2 => some [.slot 8 (.int .i64)] | _ => none, cut := fun _ => none, deep := fun _ => false }
theorem c_spec_OrderFor : Contract Try.prog 23 e_spec_OrderFor.sig e_spec_OrderFor.F :=
  den_is (E := v_spec_OrderFor) ⟨tab_ti, tab_eq⟩ (fns_cons c_spec_l28Has (fns_cons c_spec_l28Before (fns_nil _))) mixed Try.func23 (by kernel_rfl) (by kernel_rfl) (fun x => by kernel_rfl)

def s_spec_Min : Sig := { params := [.val false y3, .val false y3], res := [.val false y3] }
noncomputable def e_spec_Min : Entry := ⟨s_spec_Min, fun a => D.spec_Min a.1 a.2⟩
noncomputable def v_spec_Min : Env := { ti := look tab, Γ := fns [], loop := fun _ => none, cut := fun _ => none, deep := fun _ => false }
theorem c_spec_Min : Contract Try.prog 65 e_spec_Min.sig e_spec_Min.F :=
  den_is (E := v_spec_Min) ⟨tab_ti, tab_eq⟩ (fns_nil _) mixed Try.func65 (by kernel_rfl) (by kernel_rfl) (fun x => by kernel_rfl)

def s_spec_Max : Sig := { params := [.val false y3, .val false y3], res := [.val false y3] }
noncomputable def e_spec_Max : Entry := ⟨s_spec_Max, fun a => D.spec_Max a.1 a.2⟩
noncomputable def v_spec_Max : Env := { ti := look tab, Γ := fns [], loop := fun _ => none, cut := fun _ => none, deep := fun _ => false }
theorem c_spec_Max : Contract Try.prog 64 e_spec_Max.sig e_spec_Max.F :=
  den_is (E := v_spec_Max) ⟨tab_ti, tab_eq⟩ (fns_nil _) mixed Try.func64 (by kernel_rfl) (by kernel_rfl) (fun x => by kernel_rfl)

def s_spec_PlaceCopies : Sig := { params := [.val false y22, .val false y3, .val false y3], res := [.row 3 y3 false] }
noncomputable def e_spec_PlaceCopies : Entry := ⟨s_spec_PlaceCopies, fun a => D.spec_PlaceCopies a.1 a.2.1 a.2.2⟩
noncomputable def v_spec_PlaceCopies : Env := { ti := look tab, Γ := fns [(23, [], e_spec_OrderFor), (65, [], e_spec_Min), (64, [], e_spec_Max)], loop := fun _ => none, cut := fun _ => none, deep := fun _ => false }
theorem c_spec_PlaceCopies : Contract Try.prog 33 e_spec_PlaceCopies.sig e_spec_PlaceCopies.F :=
  den_is (E := v_spec_PlaceCopies) ⟨tab_ti, tab_eq⟩ (fns_cons c_spec_OrderFor (fns_cons c_spec_Min (fns_cons c_spec_Max (fns_nil _)))) mixed Try.func33 (by kernel_rfl) (by kernel_rfl) (fun x => by kernel_rfl)

def s_spec_l28Without : Sig := { params := [.val false y22, .val false y3], res := [.row 3 y3 false] }
noncomputable def e_spec_l28Without : Entry := ⟨s_spec_l28Without, fun a => D.spec_l28Without a.1 a.2⟩
noncomputable def v_spec_l28Without : Env := { ti := look tab, Γ := fns [], loop := fun b => match b with | 0 => some [.slot 5 (.own 3 y3 false), .slot 6 (.int .i64)] | _ => none, cut := fun _ => none, deep := fun _ => false }
theorem c_spec_l28Without : Contract Try.prog 66 e_spec_l28Without.sig e_spec_l28Without.F :=
  den_is (E := v_spec_l28Without) ⟨tab_ti, tab_eq⟩ (fns_nil _) mixed Try.func66 (by kernel_rfl) (by kernel_rfl) (fun x => by kernel_rfl)

def s_spec_MovedBy : Sig := { params := [.val false y22, .val false y3, .val false y3, .val false y3], res := [.val false y3] }
noncomputable def e_spec_MovedBy : Entry := ⟨s_spec_MovedBy, fun a => D.spec_MovedBy a.1 a.2.1 a.2.2.1 a.2.2.2⟩
noncomputable def v_spec_MovedBy : Env := { ti := look tab, Γ := fns [(33, [], e_spec_PlaceCopies), (66, [], e_spec_l28Without), (52, [], e_spec_l28Has)], loop := fun b => match b with | 0 => some [.slot 11 (.int .i64), .slot 12 (.int .i64)] | _ => none, cut := fun _ => none, deep := fun _ => false }
theorem c_spec_MovedBy : Contract Try.prog 34 e_spec_MovedBy.sig e_spec_MovedBy.F :=
  den_is (E := v_spec_MovedBy) ⟨tab_ti, tab_eq⟩ (fns_cons c_spec_PlaceCopies (fns_cons c_spec_l28Without (fns_cons c_spec_l28Has (fns_nil _)))) mixed Try.func34 (by kernel_rfl) (by kernel_rfl) (fun x => by kernel_rfl)

def s_impl_sorted : Sig := { params := [.val false y22], res := [.row 3 y3 true] }
noncomputable def e_impl_sorted : Entry := ⟨s_impl_sorted, fun a => D.impl_sorted a⟩
theorem c_impl_sorted : Contract Try.prog 54 e_impl_sorted.sig e_impl_sorted.F := Go.Proofs.Ytekclbjiifiahaa.Ex.sorted_is

def s_impl_InRange : Sig := { params := [.val false y3, .val false y3, .val false y3], res := [.val false y4] }
noncomputable def e_impl_InRange : Entry := ⟨s_impl_InRange, fun a => D.impl_InRange a.1 a.2.1 a.2.2⟩
noncomputable def v_impl_InRange : Env := { ti := look tab, Γ := fns [], loop := fun _ => none, cut := fun _ => none, deep := fun _ => false }
theorem c_impl_InRange : Contract Try.prog 51 e_impl_InRange.sig e_impl_InRange.F :=
  den_is (E := v_impl_InRange) ⟨tab_ti, tab_eq⟩ (fns_nil _) mixed Try.func51 (by kernel_rfl) (by kernel_rfl) (fun x => by kernel_rfl)

def s_impl_Mod : Sig := { params := [.val false y3, .val false y3], res := [.val false y3] }
noncomputable def e_impl_Mod : Entry := ⟨s_impl_Mod, fun a => D.impl_Mod a.1 a.2⟩
noncomputable def v_impl_Mod : Env := { ti := look tab, Γ := fns [(51, [], e_impl_InRange)], loop := fun _ => none, cut := fun _ => none, deep := fun _ => false }
theorem c_impl_Mod : Contract Try.prog 61 e_impl_Mod.sig e_impl_Mod.F :=
  den_is (E := v_impl_Mod) ⟨tab_ti, tab_eq⟩ (fns_cons c_impl_InRange (fns_nil _)) mixed Try.func61 (by kernel_rfl) (by kernel_rfl) (fun x => by kernel_rfl)

def s_impl_Hash : Sig := { params := [.val false y22], res := [.val false y3] }
noncomputable def e_impl_Hash : Entry := ⟨s_impl_Hash, fun a => D.impl_Hash a⟩
noncomputable def v_impl_Hash : Env := { ti := look tab, Γ := fns [(61, [], e_impl_Mod)], loop := fun b => match b with | 0 => some [.slot 3 (.int .i64), .slot 8 (.int .i64)] | _ => none, cut := fun _ => none, deep := fun _ => false }
theorem c_impl_Hash : Contract Try.prog 62 e_impl_Hash.sig e_impl_Hash.F :=
  den_is (E := v_impl_Hash) ⟨tab_ti, tab_eq⟩ (fns_cons c_impl_Mod (fns_nil _)) mixed Try.func62 (by kernel_rfl) (by kernel_rfl) (fun x => by kernel_rfl)

def s_impl_RankOf : Sig := { params := [.val false y3, .val false y3], res := [.val false y3] }
noncomputable def e_impl_RankOf : Entry := ⟨s_impl_RankOf, fun a => D.impl_RankOf a.1 a.2⟩
noncomputable def v_impl_RankOf : Env := { ti := look tab, Γ := fns [(62, [], e_impl_Hash), (61, [], e_impl_Mod)], loop := fun _ => none, cut := fun _ => none, deep := fun _ => false }
theorem c_impl_RankOf : Contract Try.prog 30 e_impl_RankOf.sig e_impl_RankOf.F :=
  den_is (E := v_impl_RankOf) ⟨tab_ti, tab_eq⟩ (fns_cons c_impl_Hash (fns_cons c_impl_Mod (fns_nil _))) mixed Try.func30 (by kernel_rfl) (by kernel_rfl) (fun x => by kernel_rfl)

def s_cmp_isNaN_int : Sig := { params := [.val false y3], res := [.val false y4] }
noncomputable def e_cmp_isNaN_int : Entry := ⟨s_cmp_isNaN_int, fun a => D.cmp_isNaN_int a⟩
noncomputable def v_cmp_isNaN_int : Env := { ti := look tab, Γ := fns [], loop := fun _ => none, cut := fun _ => none, deep := fun _ => false }
theorem c_cmp_isNaN_int : Contract Try.prog 79 e_cmp_isNaN_int.sig e_cmp_isNaN_int.F :=
  den_is (E := v_cmp_isNaN_int) ⟨tab_ti, tab_eq⟩ (fns_nil _) mixed Try.func79 (by kernel_rfl) (by kernel_rfl) (fun x => by kernel_rfl)

def s_cmp_Compare_int : Sig := { params := [.val false y3, .val false y3], res := [.val false y3] }
noncomputable def e_cmp_Compare_int : Entry := ⟨s_cmp_Compare_int, fun a => D.cmp_Compare_int a.1 a.2⟩
noncomputable def v_cmp_Compare_int : Env := { ti := look tab, Γ := fns [(79, [], e_cmp_isNaN_int)], loop := fun _ => none, cut := fun _ => none, deep := fun _ => false }
theorem c_cmp_Compare_int : Contract Try.prog 57 e_cmp_Compare_int.sig e_cmp_Compare_int.F :=
  den_is (E := v_cmp_Compare_int) ⟨tab_ti, tab_eq⟩ (fns_cons c_cmp_isNaN_int (fns_nil _)) mixed Try.func57 (by kernel_rfl) (by kernel_rfl) (fun x => by kernel_rfl)

def s_impl_OrderFor_1 : Sig := { params := [.val false y3, .val false y3, .cptr y3], res := [.val false y3] }
noncomputable def e_impl_OrderFor_1 : Entry := ⟨s_impl_OrderFor_1, fun a => D.impl_OrderFor_1 a.1 a.2.1 a.2.2⟩
noncomputable def v_impl_OrderFor_1 : Env := { ti := look tab, Γ := fns [(30, [], e_impl_RankOf), (57, [], e_cmp_Compare_int)], loop := fun _ => none, cut := fun _ => none, deep := fun _ => false }
theorem c_impl_OrderFor_1 : Contract Try.prog 56 e_impl_OrderFor_1.sig e_impl_OrderFor_1.F :=
  den_is (E := v_impl_OrderFor_1) ⟨tab_ti, tab_eq⟩ (fns_cons c_impl_RankOf (fns_cons c_cmp_Compare_int (fns_nil _))) mixed Try.func56 (by kernel_rfl) (by kernel_rfl) (fun x => by kernel_rfl)

def s_slices_insertionSortCmpFunc_int_impl_OrderFor_1 : Sig := { params := [.io 3 y3, .val false y3, .val false y3, .fn 56 [y3]], res := [] }
noncomputable def e_slices_insertionSortCmpFunc_int_impl_OrderFor_1 : Entry := ⟨s_slices_insertionSortCmpFunc_int_impl_OrderFor_1, fun a => D.slices_insertionSortCmpFunc_int_impl_OrderFor_1 a.1 a.2.1 a.2.2.1 a.2.2.2⟩
noncomputable def v_slices_insertionSortCmpFunc_int_impl_OrderFor_1 : Env := { ti := look tab, Γ := fns [(56, [], e_impl_OrderFor_1)], loop := fun b => match b with | 0 => some [.slot 8 (.int .i64), .vec 0 3 y3 true] | 2 => some [.slot 9 (.int .i64), .vec 0 3 y3 true] | _ => none, cut := fun _ => none, deep := fun _ => false }
theorem c_slices_insertionSortCmpFunc_int_impl_OrderFor_1 : Contract Try.prog 99 e_slices_insertionSortCmpFunc_int_impl_OrderFor_1.sig e_slices_insertionSortCmpFunc_int_impl_OrderFor_1.F :=
  den_is (E := v_slices_insertionSortCmpFunc_int_impl_OrderFor_1) ⟨tab_ti, tab_eq⟩ (fns_cons c_impl_OrderFor_1 (fns_nil _)) mixed Try.func99 (by kernel_rfl) (by kernel_rfl) (fun x => by kernel_rfl)

def s_slices_swapRangeCmpFunc_int_impl_OrderFor_1 : Sig := { params := [.io 3 y3, .val false y3, .val false y3, .val false y3, .fn 56 [y3]], res := [] }
noncomputable def e_slices_swapRangeCmpFunc_int_impl_OrderFor_1 : Entry := ⟨s_slices_swapRangeCmpFunc_int_impl_OrderFor_1, fun a => D.slices_swapRangeCmpFunc_int_impl_OrderFor_1 a.1 a.2.1 a.2.2.1 a.2.2.2.1 a.2.2.2.2⟩
noncomputable def v_slices_swapRangeCmpFunc_int_impl_OrderFor_1 : Env := { ti := look tab, Γ := fns [], loop := fun b => match b with | 0 => some [.slot 10 (.int .i64), .vec 0 3 y3 true] | _ => none, cut := fun _ => none, deep := fun _ => false }
theorem c_slices_swapRangeCmpFunc_int_impl_OrderFor_1 : Contract Try.prog 108 e_slices_swapRangeCmpFunc_int_impl_OrderFor_1.sig e_slices_swapRangeCmpFunc_int_impl_OrderFor_1.F :=
  den_is (E := v_slices_swapRangeCmpFunc_int_impl_OrderFor_1) ⟨tab_ti, tab_eq⟩ (fns_nil _) mixed Try.func108 (by kernel_rfl) (by kernel_rfl) (fun x => by kernel_rfl)

def s_slices_rotateCmpFunc_int_impl_OrderFor_1 : Sig := { params := [.io 3 y3, .val false y3, .val false y3, .val false y3, .fn 56 [y3]], res := [] }
noncomputable def e_slices_rotateCmpFunc_int_impl_OrderFor_1 : Entry := ⟨s_slices_rotateCmpFunc_int_impl_OrderFor_1, fun a => D.slices_rotateCmpFunc_int_impl_OrderFor_1 a.1 a.2.1 a.2.2.1 a.2.2.2.1 a.2.2.2.2⟩
noncomputable def v_slices_rotateCmpFunc_int_impl_OrderFor_1 : Env := { ti := look tab, Γ := fns [(108, [56], e_slices_swapRangeCmpFunc_int_impl_OrderFor_1)], loop := fun b => match b with | 0 => some [.slot 10 (.int .i64), .slot 11 (.int .i64), .vec 0 3 y3 true] | _ => none, cut := fun _ => none, deep := fun _ => false }
theorem c_slices_rotateCmpFunc_int_impl_OrderFor_1 : Contract Try.prog 106 e_slices_rotateCmpFunc_int_impl_OrderFor_1.sig e_slices_rotateCmpFunc_int_impl_OrderFor_1.F :=
  den_is (E := v_slices_rotateCmpFunc_int_impl_OrderFor_1) ⟨tab_ti, tab_eq⟩ (fns_cons c_slices_swapRangeCmpFunc_int_impl_OrderFor_1 (fns_nil _)) mixed Try.func106 (by kernel_rfl) (by kernel_rfl) (fun x => by kernel_rfl)

def s_slices_symMergeCmpFunc_int_impl_OrderFor_1 : Sig := { params := [.io 3 y3, .val false y3, .val false y3, .val false y3, .fn 56 [y3]], res := [] }
noncomputable def e_slices_symMergeCmpFunc_int_impl_OrderFor_1 : Entry := ⟨s_slices_symMergeCmpFunc_int_impl_OrderFor_1, fun a => D.slices_symMergeCmpFunc_int_impl_OrderFor_1 a.1 a.2.1 a.2.2.1 a.2.2.2.1 a.2.2.2.2⟩
noncomputable def v_slices_symMergeCmpFunc_int_impl_OrderFor_1 (n : Nat) : Env := { ti := look tab, Γ := fns [(56, [], e_impl_OrderFor_1), (106, [56], e_slices_rotateCmpFunc_int_impl_OrderFor_1), (100, [56], ⟨s_slices_symMergeCmpFunc_int_impl_OrderFor_1, fun a => D.slices_symMergeCmpFunc_int_impl_OrderFor_1_f n a.1 a.2.1 a.2.2.1 a.2.2.2.1 a.2.2.2.2⟩)], loop := fun b => match b with | 0 => some [.slot 10 (.int .i64), .slot 11 (.int .i64)] | 2 => some [.slot 13 (.int .i64), .vec 0 3 y3 true] | 4 => some [.slot 14 (.int .i64), .slot 15 (.int .i64)] | 6 => some [.slot 17 (.int .i64), .vec 0 3 y3 true] | 8 => some [.slot 20 (.int .i64), .slot 21 (.int .i64)] | _ => none, cut := fun _ => none, deep := fun _ => false }
theorem cf_slices_symMergeCmpFunc_int_impl_OrderFor_1 : ∀ n : Nat, Contract Try.prog 100 s_slices_symMergeCmpFunc_int_impl_OrderFor_1 (fun a => D.slices_symMergeCmpFunc_int_impl_OrderFor_1_f n a.1 a.2.1 a.2.2.1 a.2.2.2.1 a.2.2.2.2)
  | 0 => ⟨⟨_, Try.func100, by kernel_rfl, by kernel_rfl⟩, fun a out w S lent cx vals hF => by cases hF⟩
  | n + 1 => have ih := cf_slices_symMergeCmpFunc_int_impl_OrderFor_1 n; den_is (E := v_slices_symMergeCmpFunc_int_impl_OrderFor_1 n) ⟨tab_ti, tab_eq⟩ (fns_cons c_impl_OrderFor_1 (fns_cons c_slices_rotateCmpFunc_int_impl_OrderFor_1 (fns_cons ih (fns_nil _)))) mixed Try.func100 (by kernel_rfl) (by kernel_rfl) (fun x => by kernel_rfl)
theorem c_slices_symMergeCmpFunc_int_impl_OrderFor_1 : Contract Try.prog 100 e_slices_symMergeCmpFunc_int_impl_OrderFor_1.sig e_slices_symMergeCmpFunc_int_impl_OrderFor_1.F := ⟨(cf_slices_symMergeCmpFunc_int_impl_OrderFor_1 0).1, fun a => (cf_slices_symMergeCmpFunc_int_impl_OrderFor_1 (a.1.length + 1)).2 a⟩

def s_slices_stableCmpFunc_int_impl_OrderFor_1 : Sig := { params := [.io 3 y3, .val false y3, .fn 56 [y3]], res := [] }
noncomputable def e_slices_stableCmpFunc_int_impl_OrderFor_1 : Entry := ⟨s_slices_stableCmpFunc_int_impl_OrderFor_1, fun a => D.slices_stableCmpFunc_int_impl_OrderFor_1 a.1 a.2.1 a.2.2⟩
noncomputable def v_slices_stableCmpFunc_int_impl_OrderFor_1 : Env := { ti := look tab, Γ := fns [(99, [56], e_slices_insertionSortCmpFunc_int_impl_OrderFor_1), (100, [56], e_slices_symMergeCmpFunc_int_impl_OrderFor_1)], loop := fun b => match b with | 0 => some [.slot 7 (.int .i64), .slot 8 (.int .i64), .vec 0 3 y3 true] | 2 => some [.slot 6 (.int .i64), .vec 0 3 y3 true] | 4 => some [.slot 7 (.int .i64), .slot 8 (.int .i64), .vec 0 3 y3 true] | _ => none, cut := fun _ => none, deep := fun _ => false }
theorem c_slices_stableCmpFunc_int_impl_OrderFor_1 : Contract Try.prog 78 e_slices_stableCmpFunc_int_impl_OrderFor_1.sig e_slices_stableCmpFunc_int_impl_OrderFor_1.F :=
  den_is (E := v_slices_stableCmpFunc_int_impl_OrderFor_1) ⟨tab_ti, tab_eq⟩ (fns_cons c_slices_insertionSortCmpFunc_int_impl_OrderFor_1 (fns_cons c_slices_symMergeCmpFunc_int_impl_OrderFor_1 (fns_nil _))) mixed Try.func78 (by kernel_rfl) (by kernel_rfl) (fun x => by kernel_rfl)

def s_slices_SortStableFunc_int_impl_OrderFor_1 : Sig := { params := [.io 3 y3, .fn 56 [y3]], res := [] }
noncomputable def e_slices_SortStableFunc_int_impl_OrderFor_1 : Entry := ⟨s_slices_SortStableFunc_int_impl_OrderFor_1, fun a => D.slices_SortStableFunc_int_impl_OrderFor_1 a.1 a.2⟩
noncomputable def v_slices_SortStableFunc_int_impl_OrderFor_1 : Env := { ti := look tab, Γ := fns [(78, [56], e_slices_stableCmpFunc_int_impl_OrderFor_1)], loop := fun _ => none, cut := fun _ => none, deep := fun _ => false }
theorem c_slices_SortStableFunc_int_impl_OrderFor_1 : Contract Try.prog 55 e_slices_SortStableFunc_int_impl_OrderFor_1.sig e_slices_SortStableFunc_int_impl_OrderFor_1.F :=
  den_is (E := v_slices_SortStableFunc_int_impl_OrderFor_1) ⟨tab_ti, tab_eq⟩ (fns_cons c_slices_stableCmpFunc_int_impl_OrderFor_1 (fns_nil _)) mixed Try.func55 (by kernel_rfl) (by kernel_rfl) (fun x => by kernel_rfl)

def s_impl_OrderFor : Sig := { params := [.val false y22, .val false y3], res := [.row 3 y3 false] }
noncomputable def e_impl_OrderFor : Entry := ⟨s_impl_OrderFor, fun a => D.impl_OrderFor a.1 a.2⟩
noncomputable def v_impl_OrderFor : Env := { ti := look tab, Γ := fns [(54, [], e_impl_sorted), (55, [56], e_slices_SortStableFunc_int_impl_OrderFor_1)], loop := fun _ => none, cut := fun _ => none, deep := fun _ => false }
theorem c_impl_OrderFor : Contract Try.prog 24 e_impl_OrderFor.sig e_impl_OrderFor.F :=
  den_is (E := v_impl_OrderFor) ⟨tab_ti, tab_eq⟩ (fns_cons c_impl_sorted (fns_cons c_slices_SortStableFunc_int_impl_OrderFor_1 (fns_nil _))) mixed Try.func24 (by kernel_rfl) (by kernel_rfl) (fun x => by kernel_rfl)

def s_impl_PlaceCopies : Sig := { params := [.val false y22, .val false y3, .val false y3], res := [.row 3 y3 false] }
noncomputable def e_impl_PlaceCopies : Entry := ⟨s_impl_PlaceCopies, fun a => D.impl_PlaceCopies a.1 a.2.1 a.2.2⟩
noncomputable def v_impl_PlaceCopies : Env := { ti := look tab, Γ := fns [(24, [], e_impl_OrderFor)], loop := fun _ => none, cut := fun _ => none, deep := fun _ => false }
theorem c_impl_PlaceCopies : Contract Try.prog 28 e_impl_PlaceCopies.sig e_impl_PlaceCopies.F :=
  den_is (E := v_impl_PlaceCopies) ⟨tab_ti, tab_eq⟩ (fns_cons c_impl_OrderFor (fns_nil _)) mixed Try.func28 (by kernel_rfl) (by kernel_rfl) (fun x => by kernel_rfl)

def s_slices_Index_int : Sig := { params := [.val false y22, .val false y3], res := [.val false y3] }
noncomputable def e_slices_Index_int : Entry := ⟨s_slices_Index_int, fun a => D.slices_Index_int a.1 a.2⟩
noncomputable def v_slices_Index_int : Env := { ti := look tab, Γ := fns [], loop := fun b => match b with | 0 => some [.slot 8 (.int .i64)] | _ => none, cut := fun _ => none, deep := fun _ => false }
theorem c_slices_Index_int : Contract Try.prog 81 e_slices_Index_int.sig e_slices_Index_int.F :=
  den_is (E := v_slices_Index_int) ⟨tab_ti, tab_eq⟩ (fns_nil _) mixed Try.func81 (by kernel_rfl) (by kernel_rfl) (fun x => by kernel_rfl)

def s_slices_Contains_int : Sig := { params := [.val false y22, .val false y3], res := [.val false y4] }
noncomputable def e_slices_Contains_int : Entry := ⟨s_slices_Contains_int, fun a => D.slices_Contains_int a.1 a.2⟩
noncomputable def v_slices_Contains_int : Env := { ti := look tab, Γ := fns [(81, [], e_slices_Index_int)], loop := fun _ => none, cut := fun _ => none, deep := fun _ => false }
theorem c_slices_Contains_int : Contract Try.prog 63 e_slices_Contains_int.sig e_slices_Contains_int.F :=
  den_is (E := v_slices_Contains_int) ⟨tab_ti, tab_eq⟩ (fns_cons c_slices_Index_int (fns_nil _)) mixed Try.func63 (by kernel_rfl) (by kernel_rfl) (fun x => by kernel_rfl)

def s_impl_MovedBy : Sig := { params := [.val false y22, .val false y3, .val false y3, .val false y3], res := [.val false y3] }
noncomputable def e_impl_MovedBy : Entry := ⟨s_impl_MovedBy, fun a => D.impl_MovedBy a.1 a.2.1 a.2.2.1 a.2.2.2⟩
noncomputable def v_impl_MovedBy : Env := { ti := look tab, Γ := fns [(28, [], e_impl_PlaceCopies), (63, [], e_slices_Contains_int)], loop := fun b => match b with | 0 => some [.slot 9 (.own 3 y3 false), .slot 18 (.int .i64)] | 2 => some [.slot 13 (.int .i64), .slot 39 (.int .i64)] | _ => none, cut := fun _ => none, deep := fun _ => false }
theorem c_impl_MovedBy : Contract Try.prog 32 e_impl_MovedBy.sig e_impl_MovedBy.F :=
  den_is (E := v_impl_MovedBy) ⟨tab_ti, tab_eq⟩ (fns_cons c_impl_PlaceCopies (fns_cons c_slices_Contains_int (fns_nil _))) mixed Try.func32 (by kernel_rfl) (by kernel_rfl) (fun x => by kernel_rfl)

def s_laws_eqIntS : Sig := { params := [.val false y22, .val false y22], res := [.val false y4] }
noncomputable def e_laws_eqIntS : Entry := ⟨s_laws_eqIntS, fun a => D.laws_eqIntS a.1 a.2⟩
noncomputable def v_laws_eqIntS : Env := { ti := look tab, Γ := fns [], loop := fun b => match b with | 0 => some [.slot 5 (.int .i64)] | _ => none, cut := fun _ => none, deep := fun _ => false }
theorem c_laws_eqIntS : Contract Try.prog 14 e_laws_eqIntS.sig e_laws_eqIntS.F :=
  den_is (E := v_laws_eqIntS) ⟨tab_ti, tab_eq⟩ (fns_nil _) mixed Try.func14 (by kernel_rfl) (by kernel_rfl) (fun x => by kernel_rfl)

def s_laws_FnExactMovedBy : Sig := { params := [.val false y22, .val false y3, .val false y3, .val false y3], res := [.val false y4] }
noncomputable def e_laws_FnExactMovedBy : Entry := ⟨s_laws_FnExactMovedBy, fun a => D.laws_FnExactMovedBy a.1 a.2.1 a.2.2.1 a.2.2.2⟩
noncomputable def v_laws_FnExactMovedBy : Env := { ti := look tab, Γ := fns [(11, [], e_laws_toIntS), (34, [], e_spec_MovedBy), (32, [], e_impl_MovedBy), (14, [], e_laws_eqIntS)], loop := fun _ => none, cut := fun _ => none, deep := fun _ => false }
theorem c_laws_FnExactMovedBy : Contract Try.prog 8 e_laws_FnExactMovedBy.sig e_laws_FnExactMovedBy.F :=
  den_is (E := v_laws_FnExactMovedBy) ⟨tab_ti, tab_eq⟩ (fns_cons c_laws_toIntS (fns_cons c_spec_MovedBy (fns_cons c_impl_MovedBy (fns_cons c_laws_eqIntS (fns_nil _))))) mixed Try.func8 (by kernel_rfl) (by kernel_rfl) (fun x => by kernel_rfl)

theorem law_true (a : Tup (s_laws_FnExactMovedBy.params.map PTy.den)) (hok : argsOk Try.prog s_laws_FnExactMovedBy.params a) : D.laws_FnExactMovedBy a.1 a.2.1 a.2.2.1 a.2.2.2 = some true := D.FnExactMovedBy_true a.1 a.2.1 a.2.2.1 a.2.2.2 (Ty.ok_bd (P := Try.prog) (t := y22) (by kernel_rfl) hok.1) (Ty.ok_bd (P := Try.prog) (t := y3) (by kernel_rfl) hok.2.1) (Ty.ok_bd (P := Try.prog) (t := y3) (by kernel_rfl) hok.2.2.1) (Ty.ok_bd (P := Try.prog) (t := y3) (by kernel_rfl) hok.2.2.2.1)
theorem lifted (os : Os) (started : os.Started) (H : Type) (enc : TypeId × Value → H) :
    ReturnsInHanded {} Try.checked os 8 .any (Rows.fnExactMovedBySpec.pre6 enc Try.prog Try.f8 Rows.fnExactMovedByRow.domain false) (Rows.fnExactMovedBySpec.post enc Try.prog Try.f8 false true false false) := by
  refine returnsInHanded_of_change_sized (C := Try.checked) (by kernel_rfl) started (by kernel_rfl) Try.func8
    (ChangeSpec.witness6 (enc := enc) (C := Try.checked) false ⟨#[], #[.slice none 0 0, .int .i64 0, .int .i64 0, .int .i64 0], []⟩ 8 (by kernel_rfl) (by kernel_rfl) (by kernel_rfl) (by kernel_rfl)) ?_
  intro W base args ds gs before hval hW hcnd hsz _
  exact law_row (C := Try.checked) rfl c_laws_FnExactMovedBy (N := 8) (by kernel_rfl) (tb := 4) (by kernel_rfl) (by kernel_rfl) (by kernel_rfl) (by kernel_rfl) rfl
    (fun ds h => by
      have h : ds.length = 4 := h
      match ds, h with
      | [d0, d1, d2, d3], _ => rfl)
    bulky_sizeOf (small := fun _ => True) (fun a ds hok _ _ => ⟨_, law_true a hok, rfl⟩) hval hW hsz trivial trivial

theorem over : Rows.fnExactMovedByRow.holds Try.pinned (OpenSpec.ofChange Rows.fnExactMovedBySpec) :=
  OpenClaim.holds_of_wide 8 Try.f8 rfl rfl rfl rfl rfl rfl rfl ⟨rfl, rfl, rfl, rfl, rfl⟩ rfl rfl rfl rfl rfl (by kernel_rfl) Try.func8 (by kernel_rfl)
    (of_decide_eq_true (by kernel_rfl)) (by unfold Func.isWrapper; first | (rw [if_pos (by decide +kernel)]; kernel_rfl) | (rw [if_neg (by decide +kernel)]; exact ⟨rfl, rfl⟩))
    (fun os started H enc _ => lifted os started H enc)
end Go.Proofs.Ytekclbjiifiahaa.SxFnExactMovedBy
namespace Go.Proofs.Ytekclbjiifiahaa
theorem fnExactMovedBy_holds : Rows.FnExactMovedBySaid := SxFnExactMovedBy.over
end Go.Proofs.Ytekclbjiifiahaa
