/- FnPlaced returns true for every input, and each input reads as it did. No condition. -/
import Derived.Test.YtekclbjiifiahaaRows
import Derived.Test.YtekclbjiifiahaaPuFnPlaced
import Derived.Test.YtekclbjiifiahaaEx
import Derived.WalkKit
import Derived.ProofKit
import Derived.ShutString
import Derived.SizedLaws
set_option linter.unusedVariables false
set_option maxRecDepth 100000
set_option maxHeartbeats 4000000
namespace Go.Proofs.Ytekclbjiifiahaa.SxFnPlaced
open Go Go.Sh Go.RowKit
instance laid0 : Laid := ⟨fun _ => True, fun _ => False, fun _ _ _ h => h.elim, fun _ _ _ _ => trivial⟩
def y3 : Ty := .int .i64
def y4 : Ty := .bool
def y5 : Ty := .int .u8
def y22 : Ty := .slice 3 y3
def y32 : Ty := .slice 5 y5
def y77 : Ty := .int .u64
def y81 : Ty := .pair y32 (.pair y3 y3)
def tab : List (TypeId × TI) := [(3, { size := 1, bytes := 8, agg := false, ty := some y3 }),
  (4, { size := 1, bytes := 1, agg := false, ty := some y4 }),
  (5, { size := 1, bytes := 1, agg := false, ty := some y5 }),
  (22, { size := 1, bytes := 24, agg := false, ty := some y22, elem := some 3 }),
  (32, { size := 1, bytes := 24, agg := false, ty := some y32, elem := some 5 }),
  (77, { size := 1, bytes := 8, agg := false, ty := some y77 }),
  (81, { size := 3, bytes := 40, agg := true, ty := some y81, fields := [(0, 32), (1, 3), (2, 3)] })]
def look : List (TypeId × TI) → TypeId → Option TI
  | [], _ => none
  | (k, i) :: r, t => if Nat.beq t k = true then some i else look r t
theorem look_ok {P : Program} : ∀ {l : List (TypeId × TI)}, (l.all fun p => tiOk P p.1 p.2) = true → ∀ t i, look l t = some i → tiOk P t i = true
  | [], _, t, i, h => by simp [look] at h
  | (k, j) :: r, h0, t, i, h => by
    simp only [List.all_cons, Bool.and_eq_true] at h0
    simp only [look] at h
    split at h
    · rename_i hk
      simp only [Option.some.injEq] at h
      have := Nat.eq_of_beq_eq_true hk
      subst this; subst h; exact h0.1
    · exact look_ok h0.2 t i h
theorem look_eq {P : Program} : ∀ {l : List (TypeId × TI)}, (l.all fun p => !p.2.eq || eqTop P p.1 p.2.ty) = true → ∀ t i, look l t = some i → i.eq = true → ∀ ty, i.ty = some ty → EqLaw P t ty.zero
  | [], _, t, i, h => by simp [look] at h
  | (k, j) :: r, h0, t, i, h => by
    simp only [List.all_cons, Bool.and_eq_true, Bool.or_eq_true, Bool.not_eq_true'] at h0
    simp only [look] at h
    split at h
    · rename_i hk
      simp only [Option.some.injEq] at h
      have := Nat.eq_of_beq_eq_true hk
      subst this; subst h
      intro he
      exact eqLaw_of (h0.1.resolve_left (by simp [he]))
    · exact look_eq h0.2 t i h
def same : List Nat → List Nat → Bool
  | [], [] => true
  | a :: x, b :: y => Nat.beq a b && same x y
  | _, _ => false
theorem same_eq : ∀ {x y : List Nat}, same x y = true → x = y
  | [], [], _ => rfl
  | a :: x, b :: y, h => by
    simp only [same, Bool.and_eq_true] at h
    rw [Nat.eq_of_beq_eq_true h.1, same_eq h.2]
  | [], _ :: _, h => by simp [same] at h
  | _ :: _, [], h => by simp [same] at h
def fns : List (FuncId × List FuncId × Entry) → FuncId → List FuncId → Option Entry
  | [], _, _ => none
  | (k, c, e) :: r, f, fs => if (Nat.beq f k && same fs c) = true then some e else fns r f fs
theorem fns_nil (P : Program) : ∀ f fs en, fns [] f fs = some en → Contract P f en.sig en.F := fun f fs en h => by simp [fns] at h
theorem fns_cons {P : Program} {k : FuncId} {c : List FuncId} {e : Entry} {r : List (FuncId × List FuncId × Entry)} (hk : Contract P k e.sig e.F) (hr : ∀ f fs en, fns r f fs = some en → Contract P f en.sig en.F) : ∀ f fs en, fns ((k, c, e) :: r) f fs = some en → Contract P f en.sig en.F := fun f fs en h => by
  simp only [fns] at h
  split at h
  · rename_i hf
    simp only [Bool.and_eq_true] at hf
    simp only [Option.some.injEq] at h
    have := Nat.eq_of_beq_eq_true hf.1
    subst this; subst h; exact hk
  · exact hr f fs en h

theorem tab_ti : ∀ t i, look tab t = some i → tiOk Try.prog t i = true := look_ok (by kernel_rfl)
theorem tab_eq : ∀ t i, look tab t = some i → i.eq = true → ∀ ty, i.ty = some ty → EqLaw Try.prog t ty.zero := look_eq (by kernel_rfl)
theorem mixed : Try.prog.follows .mixedOrders = true := by kernel_rfl
def s_laws_big : Sig := { params := [.val false y32], res := [.val false y4] }
noncomputable def e_laws_big : Entry := ⟨s_laws_big, fun a => D.laws_big a⟩
noncomputable def v_laws_big : Env := { ti := look tab, Γ := fns [], loop := fun _ => none, cut := fun _ => none, deep := fun _ => false }
theorem c_laws_big : Contract Try.prog 16 e_laws_big.sig e_laws_big.F :=
  den_is (E := v_laws_big) ⟨tab_ti, tab_eq⟩ (fns_nil _) mixed Try.func16 (by kernel_rfl) (by kernel_rfl) (fun x => by kernel_rfl)

def s_spec_l1New : Sig := { params := [.val false y32], res := [.ptr y81] }
noncomputable def e_spec_l1New : Entry := ⟨s_spec_l1New, fun a => D.spec_l1New a⟩
noncomputable def v_spec_l1New : Env := { ti := look tab, Γ := fns [], loop := fun b => match b with | 0 => some [.slot 3 (.int .i64), .slot 4 (.int .i64)] | _ => none, cut := fun _ => none, deep := fun _ => false }
theorem c_spec_l1New : Contract Try.prog 44 e_spec_l1New.sig e_spec_l1New.F :=
  den_is (E := v_spec_l1New) ⟨tab_ti, tab_eq⟩ (fns_nil _) mixed Try.func44 (by kernel_rfl) (by kernel_rfl) (fun x => by kernel_rfl)

def s_spec_l1Byte : Sig := { params := [.ioptr y81], res := [.val false y3] }
noncomputable def e_spec_l1Byte : Entry := ⟨s_spec_l1Byte, fun a => D.spec_l1Byte a⟩
noncomputable def v_spec_l1Byte : Env := { ti := look tab, Γ := fns [], loop := fun _ => none, cut := fun _ => none, deep := fun _ => false }
theorem c_spec_l1Byte : Contract Try.prog 80 e_spec_l1Byte.sig e_spec_l1Byte.F :=
  den_is (E := v_spec_l1Byte) ⟨tab_ti, tab_eq⟩ (fns_nil _) mixed Try.func80 (by kernel_rfl) (by kernel_rfl) (fun x => by kernel_rfl)

def s_spec_l1Below : Sig := { params := [.ioptr y81, .val false y3], res := [.val false y3] }
noncomputable def e_spec_l1Below : Entry := ⟨s_spec_l1Below, fun a => D.spec_l1Below a.1 a.2⟩
noncomputable def v_spec_l1Below : Env := { ti := look tab, Γ := fns [(80, [], e_spec_l1Byte)], loop := fun _ => none, cut := fun _ => none, deep := fun _ => false }
theorem c_spec_l1Below : Contract Try.prog 59 e_spec_l1Below.sig e_spec_l1Below.F :=
  den_is (E := v_spec_l1Below) ⟨tab_ti, tab_eq⟩ (fns_cons c_spec_l1Byte (fns_nil _)) mixed Try.func59 (by kernel_rfl) (by kernel_rfl) (fun x => by kernel_rfl)

def s_spec_l28List : Sig := { params := [.ioptr y81], res := [.row 3 y3 false] }
noncomputable def e_spec_l28List : Entry := ⟨s_spec_l28List, fun a => D.spec_l28List a⟩
noncomputable def v_spec_l28List : Env := { ti := look tab, Γ := fns [(59, [], e_spec_l1Below)], loop := fun b => match b with | 0 => some [.slot 3 (.own 3 y3 false), .slot 4 (.int .i64), .box 0 [.ro 5 y5, .int .i64, .int .i64]] | _ => none, cut := fun _ => none, deep := fun _ => false }
theorem c_spec_l28List : Contract Try.prog 58 e_spec_l28List.sig e_spec_l28List.F :=
  den_is (E := v_spec_l28List) ⟨tab_ti, tab_eq⟩ (fns_cons c_spec_l1Below (fns_nil _)) mixed Try.func58 (by kernel_rfl) (by kernel_rfl) (fun x => by kernel_rfl)

def s_spec_l1Once : Sig := { params := [.ioptr y81, .val false y3], res := [.val false y4] }
noncomputable def e_spec_l1Once : Entry := ⟨s_spec_l1Once, fun a => D.spec_l1Once a.1 a.2⟩
noncomputable def v_spec_l1Once : Env := { ti := look tab, Γ := fns [(59, [], e_spec_l1Below)], loop := fun _ => none, cut := fun _ => none, deep := fun _ => false }
theorem c_spec_l1Once : Contract Try.prog 60 e_spec_l1Once.sig e_spec_l1Once.F :=
  den_is (E := v_spec_l1Once) ⟨tab_ti, tab_eq⟩ (fns_cons c_spec_l1Below (fns_nil _)) mixed Try.func60 (by kernel_rfl) (by kernel_rfl) (fun x => by kernel_rfl)

def s_spec_l1Int : Sig := { params := [.ioptr y81, .val false y22], res := [.val false y3] }
noncomputable def e_spec_l1Int : Entry := ⟨s_spec_l1Int, fun a => D.spec_l1Int a.1 a.2⟩
noncomputable def v_spec_l1Int : Env := { ti := look tab, Γ := fns [(59, [], e_spec_l1Below)], loop := fun _ => none, cut := fun _ => none, deep := fun _ => false }
theorem c_spec_l1Int : Contract Try.prog 45 e_spec_l1Int.sig e_spec_l1Int.F :=
  den_is (E := v_spec_l1Int) ⟨tab_ti, tab_eq⟩ (fns_cons c_spec_l1Below (fns_nil _)) mixed Try.func45 (by kernel_rfl) (by kernel_rfl) (fun x => by kernel_rfl)

def s_spec_DrawMovedBy : Sig := { params := [.val false y32], res := [.row 3 y3 false, .val false y3, .val false y3, .val false y3] }
noncomputable def e_spec_DrawMovedBy : Entry := ⟨s_spec_DrawMovedBy, fun a => D.spec_DrawMovedBy a⟩
noncomputable def v_spec_DrawMovedBy : Env := { ti := look tab, Γ := fns [(44, [], e_spec_l1New), (58, [], e_spec_l28List), (59, [], e_spec_l1Below), (60, [], e_spec_l1Once), (45, [], e_spec_l1Int)], loop := fun _ => none, cut := fun _ => none, deep := fun _ => false }
theorem c_spec_DrawMovedBy : Contract Try.prog 27 e_spec_DrawMovedBy.sig e_spec_DrawMovedBy.F :=
  den_is (E := v_spec_DrawMovedBy) ⟨tab_ti, tab_eq⟩ (fns_cons c_spec_l1New (fns_cons c_spec_l28List (fns_cons c_spec_l1Below (fns_cons c_spec_l1Once (fns_cons c_spec_l1Int (fns_nil _)))))) mixed Try.func27 (by kernel_rfl) (by kernel_rfl) (fun x => by kernel_rfl)

def s_impl_sorted : Sig := { params := [.val false y22], res := [.row 3 y3 true] }
noncomputable def e_impl_sorted : Entry := ⟨s_impl_sorted, fun a => D.impl_sorted a⟩
theorem c_impl_sorted : Contract Try.prog 54 e_impl_sorted.sig e_impl_sorted.F := Go.Proofs.Ytekclbjiifiahaa.Ex.sorted_is

def s_impl_InRange : Sig := { params := [.val false y3, .val false y3, .val false y3], res := [.val false y4] }
noncomputable def e_impl_InRange : Entry := ⟨s_impl_InRange, fun a => D.impl_InRange a.1 a.2.1 a.2.2⟩
noncomputable def v_impl_InRange : Env := { ti := look tab, Γ := fns [], loop := fun _ => none, cut := fun _ => none, deep := fun _ => false }
theorem c_impl_InRange : Contract Try.prog 51 e_impl_InRange.sig e_impl_InRange.F :=
  den_is (E := v_impl_InRange) ⟨tab_ti, tab_eq⟩ (fns_nil _) mixed Try.func51 (by kernel_rfl) (by kernel_rfl) (fun x => by kernel_rfl)

def s_impl_Mod : Sig := { params := [.val false y3, .val false y3], res := [.val false y3] }
noncomputable def e_impl_Mod : Entry := ⟨s_impl_Mod, fun a => D.impl_Mod a.1 a.2⟩
noncomputable def v_impl_Mod : Env := { ti := look tab, Γ := fns [(51, [], e_impl_InRange)], loop := fun _ => none, cut := fun _ => none, deep := fun _ => false }
theorem c_impl_Mod : Contract Try.prog 61 e_impl_Mod.sig e_impl_Mod.F :=
  den_is (E := v_impl_Mod) ⟨tab_ti, tab_eq⟩ (fns_cons c_impl_InRange (fns_nil _)) mixed Try.func61 (by kernel_rfl) (by kernel_rfl) (fun x => by kernel_rfl)

def s_impl_Hash : Sig := { params := [.val false y22], res := [.val false y3] }
noncomputable def e_impl_Hash : Entry := ⟨s_impl_Hash, fun a => D.impl_Hash a⟩
noncomputable def v_impl_Hash : Env := { ti := look tab, Γ := fns [(61, [], e_impl_Mod)], loop := fun b => match b with | 0 => some [.slot 3 (.int .i64), .slot 8 (.int .i64)] | _ => none, cut := fun _ => none, deep := fun _ => false }
theorem c_impl_Hash : Contract Try.prog 62 e_impl_Hash.sig e_impl_Hash.F :=
  den_is (E := v_impl_Hash) ⟨tab_ti, tab_eq⟩ (fns_cons c_impl_Mod (fns_nil _)) mixed Try.func62 (by kernel_rfl) (by kernel_rfl) (fun x => by kernel_rfl)

def s_impl_RankOf : Sig := { params := [.val false y3, .val false y3], res := [.val false y3] }
noncomputable def e_impl_RankOf : Entry := ⟨s_impl_RankOf, fun a => D.impl_RankOf a.1 a.2⟩
noncomputable def v_impl_RankOf : Env := { ti := look tab, Γ := fns [(62, [], e_impl_Hash), (61, [], e_impl_Mod)], loop := fun _ => none, cut := fun _ => none, deep := fun _ => false }
theorem c_impl_RankOf : Contract Try.prog 30 e_impl_RankOf.sig e_impl_RankOf.F :=
  den_is (E := v_impl_RankOf) ⟨tab_ti, tab_eq⟩ (fns_cons c_impl_Hash (fns_cons c_impl_Mod (fns_nil _))) mixed Try.func30 (by kernel_rfl) (by kernel_rfl) (fun x => by kernel_rfl)

def s_cmp_isNaN_int : Sig := { params := [.val false y3], res := [.val false y4] }
noncomputable def e_cmp_isNaN_int : Entry := ⟨s_cmp_isNaN_int, fun a => D.cmp_isNaN_int a⟩
noncomputable def v_cmp_isNaN_int : Env := { ti := look tab, Γ := fns [], loop := fun _ => none, cut := fun _ => none, deep := fun _ => false }
theorem c_cmp_isNaN_int : Contract Try.prog 79 e_cmp_isNaN_int.sig e_cmp_isNaN_int.F :=
  den_is (E := v_cmp_isNaN_int) ⟨tab_ti, tab_eq⟩ (fns_nil _) mixed Try.func79 (by kernel_rfl) (by kernel_rfl) (fun x => by kernel_rfl)

def s_cmp_Compare_int : Sig := { params := [.val false y3, .val false y3], res := [.val false y3] }
noncomputable def e_cmp_Compare_int : Entry := ⟨s_cmp_Compare_int, fun a => D.cmp_Compare_int a.1 a.2⟩
noncomputable def v_cmp_Compare_int : Env := { ti := look tab, Γ := fns [(79, [], e_cmp_isNaN_int)], loop := fun _ => none, cut := fun _ => none, deep := fun _ => false }
theorem c_cmp_Compare_int : Contract Try.prog 57 e_cmp_Compare_int.sig e_cmp_Compare_int.F :=
  den_is (E := v_cmp_Compare_int) ⟨tab_ti, tab_eq⟩ (fns_cons c_cmp_isNaN_int (fns_nil _)) mixed Try.func57 (by kernel_rfl) (by kernel_rfl) (fun x => by kernel_rfl)

def s_impl_OrderFor_1 : Sig := { params := [.val false y3, .val false y3, .cptr y3], res := [.val false y3] }
noncomputable def e_impl_OrderFor_1 : Entry := ⟨s_impl_OrderFor_1, fun a => D.impl_OrderFor_1 a.1 a.2.1 a.2.2⟩
noncomputable def v_impl_OrderFor_1 : Env := { ti := look tab, Γ := fns [(30, [], e_impl_RankOf), (57, [], e_cmp_Compare_int)], loop := fun _ => none, cut := fun _ => none, deep := fun _ => false }
theorem c_impl_OrderFor_1 : Contract Try.prog 56 e_impl_OrderFor_1.sig e_impl_OrderFor_1.F :=
  den_is (E := v_impl_OrderFor_1) ⟨tab_ti, tab_eq⟩ (fns_cons c_impl_RankOf (fns_cons c_cmp_Compare_int (fns_nil _))) mixed Try.func56 (by kernel_rfl) (by kernel_rfl) (fun x => by kernel_rfl)

def s_slices_insertionSortCmpFunc_int_impl_OrderFor_1 : Sig := { params := [.io 3 y3, .val false y3, .val false y3, .fn 56 [y3]], res := [] }
noncomputable def e_slices_insertionSortCmpFunc_int_impl_OrderFor_1 : Entry := ⟨s_slices_insertionSortCmpFunc_int_impl_OrderFor_1, fun a => D.slices_insertionSortCmpFunc_int_impl_OrderFor_1 a.1 a.2.1 a.2.2.1 a.2.2.2⟩
noncomputable def v_slices_insertionSortCmpFunc_int_impl_OrderFor_1 : Env := { ti := look tab, Γ := fns [(56, [], e_impl_OrderFor_1)], loop := fun b => match b with | 0 => some [.slot 8 (.int .i64), .vec 0 3 y3 true] | 2 => some [.slot 9 (.int .i64), .vec 0 3 y3 true] | _ => none, cut := fun _ => none, deep := fun _ => false }
theorem c_slices_insertionSortCmpFunc_int_impl_OrderFor_1 : Contract Try.prog 99 e_slices_insertionSortCmpFunc_int_impl_OrderFor_1.sig e_slices_insertionSortCmpFunc_int_impl_OrderFor_1.F :=
  den_is (E := v_slices_insertionSortCmpFunc_int_impl_OrderFor_1) ⟨tab_ti, tab_eq⟩ (fns_cons c_impl_OrderFor_1 (fns_nil _)) mixed Try.func99 (by kernel_rfl) (by kernel_rfl) (fun x => by kernel_rfl)

def s_slices_swapRangeCmpFunc_int_impl_OrderFor_1 : Sig := { params := [.io 3 y3, .val false y3, .val false y3, .val false y3, .fn 56 [y3]], res := [] }
noncomputable def e_slices_swapRangeCmpFunc_int_impl_OrderFor_1 : Entry := ⟨s_slices_swapRangeCmpFunc_int_impl_OrderFor_1, fun a => D.slices_swapRangeCmpFunc_int_impl_OrderFor_1 a.1 a.2.1 a.2.2.1 a.2.2.2.1 a.2.2.2.2⟩
noncomputable def v_slices_swapRangeCmpFunc_int_impl_OrderFor_1 : Env := { ti := look tab, Γ := fns [], loop := fun b => match b with | 0 => some [.slot 10 (.int .i64), .vec 0 3 y3 true] | _ => none, cut := fun _ => none, deep := fun _ => false }
theorem c_slices_swapRangeCmpFunc_int_impl_OrderFor_1 : Contract Try.prog 108 e_slices_swapRangeCmpFunc_int_impl_OrderFor_1.sig e_slices_swapRangeCmpFunc_int_impl_OrderFor_1.F :=
  den_is (E := v_slices_swapRangeCmpFunc_int_impl_OrderFor_1) ⟨tab_ti, tab_eq⟩ (fns_nil _) mixed Try.func108 (by kernel_rfl) (by kernel_rfl) (fun x => by kernel_rfl)

def s_slices_rotateCmpFunc_int_impl_OrderFor_1 : Sig := { params := [.io 3 y3, .val false y3, .val false y3, .val false y3, .fn 56 [y3]], res := [] }
noncomputable def e_slices_rotateCmpFunc_int_impl_OrderFor_1 : Entry := ⟨s_slices_rotateCmpFunc_int_impl_OrderFor_1, fun a => D.slices_rotateCmpFunc_int_impl_OrderFor_1 a.1 a.2.1 a.2.2.1 a.2.2.2.1 a.2.2.2.2⟩
noncomputable def v_slices_rotateCmpFunc_int_impl_OrderFor_1 : Env := { ti := look tab, Γ := fns [(108, [56], e_slices_swapRangeCmpFunc_int_impl_OrderFor_1)], loop := fun b => match b with | 0 => some [.slot 10 (.int .i64), .slot 11 (.int .i64), .vec 0 3 y3 true] | _ => none, cut := fun _ => none, deep := fun _ => false }
theorem c_slices_rotateCmpFunc_int_impl_OrderFor_1 : Contract Try.prog 106 e_slices_rotateCmpFunc_int_impl_OrderFor_1.sig e_slices_rotateCmpFunc_int_impl_OrderFor_1.F :=
  den_is (E := v_slices_rotateCmpFunc_int_impl_OrderFor_1) ⟨tab_ti, tab_eq⟩ (fns_cons c_slices_swapRangeCmpFunc_int_impl_OrderFor_1 (fns_nil _)) mixed Try.func106 (by kernel_rfl) (by kernel_rfl) (fun x => by kernel_rfl)

def s_slices_symMergeCmpFunc_int_impl_OrderFor_1 : Sig := { params := [.io 3 y3, .val false y3, .val false y3, .val false y3, .fn 56 [y3]], res := [] }
noncomputable def e_slices_symMergeCmpFunc_int_impl_OrderFor_1 : Entry := ⟨s_slices_symMergeCmpFunc_int_impl_OrderFor_1, fun a => D.slices_symMergeCmpFunc_int_impl_OrderFor_1 a.1 a.2.1 a.2.2.1 a.2.2.2.1 a.2.2.2.2⟩
noncomputable def v_slices_symMergeCmpFunc_int_impl_OrderFor_1 (n : Nat) : Env := { ti := look tab, Γ := fns [(56, [], e_impl_OrderFor_1), (106, [56], e_slices_rotateCmpFunc_int_impl_OrderFor_1), (100, [56], ⟨s_slices_symMergeCmpFunc_int_impl_OrderFor_1, fun a => D.slices_symMergeCmpFunc_int_impl_OrderFor_1_f n a.1 a.2.1 a.2.2.1 a.2.2.2.1 a.2.2.2.2⟩)], loop := fun b => match b with | 0 => some [.slot 10 (.int .i64), .slot 11 (.int .i64)] | 2 => some [.slot 13 (.int .i64), .vec 0 3 y3 true] | 4 => some [.slot 14 (.int .i64), .slot 15 (.int .i64)] | 6 => some [.slot 17 (.int .i64), .vec 0 3 y3 true] | 8 => some [.slot 20 (.int .i64), .slot 21 (.int .i64)] | _ => none, cut := fun _ => none, deep := fun _ => false }
theorem cf_slices_symMergeCmpFunc_int_impl_OrderFor_1 : ∀ n : Nat, Contract Try.prog 100 s_slices_symMergeCmpFunc_int_impl_OrderFor_1 (fun a => D.slices_symMergeCmpFunc_int_impl_OrderFor_1_f n a.1 a.2.1 a.2.2.1 a.2.2.2.1 a.2.2.2.2)
  | 0 => ⟨⟨_, Try.func100, by kernel_rfl, by kernel_rfl⟩, fun a out w S lent cx vals hF => by cases hF⟩
  | n + 1 => have ih := cf_slices_symMergeCmpFunc_int_impl_OrderFor_1 n; den_is (E := v_slices_symMergeCmpFunc_int_impl_OrderFor_1 n) ⟨tab_ti, tab_eq⟩ (fns_cons c_impl_OrderFor_1 (fns_cons c_slices_rotateCmpFunc_int_impl_OrderFor_1 (fns_cons ih (fns_nil _)))) mixed Try.func100 (by kernel_rfl) (by kernel_rfl) (fun x => by kernel_rfl)
theorem c_slices_symMergeCmpFunc_int_impl_OrderFor_1 : Contract Try.prog 100 e_slices_symMergeCmpFunc_int_impl_OrderFor_1.sig e_slices_symMergeCmpFunc_int_impl_OrderFor_1.F := ⟨(cf_slices_symMergeCmpFunc_int_impl_OrderFor_1 0).1, fun a => (cf_slices_symMergeCmpFunc_int_impl_OrderFor_1 (a.1.length + 1)).2 a⟩

def s_slices_stableCmpFunc_int_impl_OrderFor_1 : Sig := { params := [.io 3 y3, .val false y3, .fn 56 [y3]], res := [] }
noncomputable def e_slices_stableCmpFunc_int_impl_OrderFor_1 : Entry := ⟨s_slices_stableCmpFunc_int_impl_OrderFor_1, fun a => D.slices_stableCmpFunc_int_impl_OrderFor_1 a.1 a.2.1 a.2.2⟩
noncomputable def v_slices_stableCmpFunc_int_impl_OrderFor_1 : Env := { ti := look tab, Γ := fns [(99, [56], e_slices_insertionSortCmpFunc_int_impl_OrderFor_1), (100, [56], e_slices_symMergeCmpFunc_int_impl_OrderFor_1)], loop := fun b => match b with | 0 => some [.slot 7 (.int .i64), .slot 8 (.int .i64), .vec 0 3 y3 true] | 2 => some [.slot 6 (.int .i64), .vec 0 3 y3 true] | 4 => some [.slot 7 (.int .i64), .slot 8 (.int .i64), .vec 0 3 y3 true] | _ => none, cut := fun _ => none, deep := fun _ => false }
theorem c_slices_stableCmpFunc_int_impl_OrderFor_1 : Contract Try.prog 78 e_slices_stableCmpFunc_int_impl_OrderFor_1.sig e_slices_stableCmpFunc_int_impl_OrderFor_1.F :=
  den_is (E := v_slices_stableCmpFunc_int_impl_OrderFor_1) ⟨tab_ti, tab_eq⟩ (fns_cons c_slices_insertionSortCmpFunc_int_impl_OrderFor_1 (fns_cons c_slices_symMergeCmpFunc_int_impl_OrderFor_1 (fns_nil _))) mixed Try.func78 (by kernel_rfl) (by kernel_rfl) (fun x => by kernel_rfl)

def s_slices_SortStableFunc_int_impl_OrderFor_1 : Sig := { params := [.io 3 y3, .fn 56 [y3]], res := [] }
noncomputable def e_slices_SortStableFunc_int_impl_OrderFor_1 : Entry := ⟨s_slices_SortStableFunc_int_impl_OrderFor_1, fun a => D.slices_SortStableFunc_int_impl_OrderFor_1 a.1 a.2⟩
noncomputable def v_slices_SortStableFunc_int_impl_OrderFor_1 : Env := { ti := look tab, Γ := fns [(78, [56], e_slices_stableCmpFunc_int_impl_OrderFor_1)], loop := fun _ => none, cut := fun _ => none, deep := fun _ => false }
theorem c_slices_SortStableFunc_int_impl_OrderFor_1 : Contract Try.prog 55 e_slices_SortStableFunc_int_impl_OrderFor_1.sig e_slices_SortStableFunc_int_impl_OrderFor_1.F :=
  den_is (E := v_slices_SortStableFunc_int_impl_OrderFor_1) ⟨tab_ti, tab_eq⟩ (fns_cons c_slices_stableCmpFunc_int_impl_OrderFor_1 (fns_nil _)) mixed Try.func55 (by kernel_rfl) (by kernel_rfl) (fun x => by kernel_rfl)

def s_impl_OrderFor : Sig := { params := [.val false y22, .val false y3], res := [.row 3 y3 false] }
noncomputable def e_impl_OrderFor : Entry := ⟨s_impl_OrderFor, fun a => D.impl_OrderFor a.1 a.2⟩
noncomputable def v_impl_OrderFor : Env := { ti := look tab, Γ := fns [(54, [], e_impl_sorted), (55, [56], e_slices_SortStableFunc_int_impl_OrderFor_1)], loop := fun _ => none, cut := fun _ => none, deep := fun _ => false }
theorem c_impl_OrderFor : Contract Try.prog 24 e_impl_OrderFor.sig e_impl_OrderFor.F :=
  den_is (E := v_impl_OrderFor) ⟨tab_ti, tab_eq⟩ (fns_cons c_impl_sorted (fns_cons c_slices_SortStableFunc_int_impl_OrderFor_1 (fns_nil _))) mixed Try.func24 (by kernel_rfl) (by kernel_rfl) (fun x => by kernel_rfl)

def s_impl_PlaceCopies : Sig := { params := [.val false y22, .val false y3, .val false y3], res := [.row 3 y3 false] }
noncomputable def e_impl_PlaceCopies : Entry := ⟨s_impl_PlaceCopies, fun a => D.impl_PlaceCopies a.1 a.2.1 a.2.2⟩
noncomputable def v_impl_PlaceCopies : Env := { ti := look tab, Γ := fns [(24, [], e_impl_OrderFor)], loop := fun _ => none, cut := fun _ => none, deep := fun _ => false }
theorem c_impl_PlaceCopies : Contract Try.prog 28 e_impl_PlaceCopies.sig e_impl_PlaceCopies.F :=
  den_is (E := v_impl_PlaceCopies) ⟨tab_ti, tab_eq⟩ (fns_cons c_impl_OrderFor (fns_nil _)) mixed Try.func28 (by kernel_rfl) (by kernel_rfl) (fun x => by kernel_rfl)

def s_laws_contains : Sig := { params := [.val false y22, .val false y3], res := [.val false y4] }
noncomputable def e_laws_contains : Entry := ⟨s_laws_contains, fun a => D.laws_contains a.1 a.2⟩
noncomputable def v_laws_contains : Env := { ti := look tab, Γ := fns [], loop := fun b => match b with | 0 => some [.slot 5 (.int .i64)] | _ => none, cut := fun _ => none, deep := fun _ => false }
theorem c_laws_contains : Contract Try.prog 29 e_laws_contains.sig e_laws_contains.F :=
  den_is (E := v_laws_contains) ⟨tab_ti, tab_eq⟩ (fns_nil _) mixed Try.func29 (by kernel_rfl) (by kernel_rfl) (fun x => by kernel_rfl)

def s_laws_within : Sig := { params := [.val false y22, .val false y22], res := [.val false y4] }
noncomputable def e_laws_within : Entry := ⟨s_laws_within, fun a => D.laws_within a.1 a.2⟩
noncomputable def v_laws_within : Env := { ti := look tab, Γ := fns [(29, [], e_laws_contains)], loop := fun b => match b with | 0 => some [.slot 5 (.int .i64)] | _ => none, cut := fun _ => none, deep := fun _ => false }
theorem c_laws_within : Contract Try.prog 31 e_laws_within.sig e_laws_within.F :=
  den_is (E := v_laws_within) ⟨tab_ti, tab_eq⟩ (fns_cons c_laws_contains (fns_nil _)) mixed Try.func31 (by kernel_rfl) (by kernel_rfl) (fun x => by kernel_rfl)

def s_slices_Index_int : Sig := { params := [.val false y22, .val false y3], res := [.val false y3] }
noncomputable def e_slices_Index_int : Entry := ⟨s_slices_Index_int, fun a => D.slices_Index_int a.1 a.2⟩
noncomputable def v_slices_Index_int : Env := { ti := look tab, Γ := fns [], loop := fun b => match b with | 0 => some [.slot 8 (.int .i64)] | _ => none, cut := fun _ => none, deep := fun _ => false }
theorem c_slices_Index_int : Contract Try.prog 81 e_slices_Index_int.sig e_slices_Index_int.F :=
  den_is (E := v_slices_Index_int) ⟨tab_ti, tab_eq⟩ (fns_nil _) mixed Try.func81 (by kernel_rfl) (by kernel_rfl) (fun x => by kernel_rfl)

def s_slices_Contains_int : Sig := { params := [.val false y22, .val false y3], res := [.val false y4] }
noncomputable def e_slices_Contains_int : Entry := ⟨s_slices_Contains_int, fun a => D.slices_Contains_int a.1 a.2⟩
noncomputable def v_slices_Contains_int : Env := { ti := look tab, Γ := fns [(81, [], e_slices_Index_int)], loop := fun _ => none, cut := fun _ => none, deep := fun _ => false }
theorem c_slices_Contains_int : Contract Try.prog 63 e_slices_Contains_int.sig e_slices_Contains_int.F :=
  den_is (E := v_slices_Contains_int) ⟨tab_ti, tab_eq⟩ (fns_cons c_slices_Index_int (fns_nil _)) mixed Try.func63 (by kernel_rfl) (by kernel_rfl) (fun x => by kernel_rfl)

def s_impl_MovedBy : Sig := { params := [.val false y22, .val false y3, .val false y3, .val false y3], res := [.val false y3] }
noncomputable def e_impl_MovedBy : Entry := ⟨s_impl_MovedBy, fun a => D.impl_MovedBy a.1 a.2.1 a.2.2.1 a.2.2.2⟩
noncomputable def v_impl_MovedBy : Env := { ti := look tab, Γ := fns [(28, [], e_impl_PlaceCopies), (63, [], e_slices_Contains_int)], loop := fun b => match b with | 0 => some [.slot 9 (.own 3 y3 false), .slot 18 (.int .i64)] | 2 => some [.slot 13 (.int .i64), .slot 39 (.int .i64)] | _ => none, cut := fun _ => none, deep := fun _ => false }
theorem c_impl_MovedBy : Contract Try.prog 32 e_impl_MovedBy.sig e_impl_MovedBy.F :=
  den_is (E := v_impl_MovedBy) ⟨tab_ti, tab_eq⟩ (fns_cons c_impl_PlaceCopies (fns_cons c_slices_Contains_int (fns_nil _))) mixed Try.func32 (by kernel_rfl) (by kernel_rfl) (fun x => by kernel_rfl)

def s_laws_FnPlaced : Sig := { params := [.val false y32], res := [.val false y4] }
noncomputable def e_laws_FnPlaced : Entry := ⟨s_laws_FnPlaced, fun a => D.laws_FnPlaced a⟩
noncomputable def v_laws_FnPlaced : Env := { ti := look tab, Γ := fns [(16, [], e_laws_big), (27, [], e_spec_DrawMovedBy), (24, [], e_impl_OrderFor), (28, [], e_impl_PlaceCopies), (29, [], e_laws_contains), (30, [], e_impl_RankOf), (31, [], e_laws_within), (32, [], e_impl_MovedBy)], loop := fun b => match b with | 0 => some [.slot 9 (.int .i64)] | 2 => some [.slot 10 (.int .i64)] | _ => none, cut := fun _ => none, deep := fun _ => false }
theorem c_laws_FnPlaced : Contract Try.prog 6 e_laws_FnPlaced.sig e_laws_FnPlaced.F :=
  den_is (E := v_laws_FnPlaced) ⟨tab_ti, tab_eq⟩ (fns_cons c_laws_big (fns_cons c_spec_DrawMovedBy (fns_cons c_impl_OrderFor (fns_cons c_impl_PlaceCopies (fns_cons c_laws_contains (fns_cons c_impl_RankOf (fns_cons c_laws_within (fns_cons c_impl_MovedBy (fns_nil _))))))))) mixed Try.func6 (by kernel_rfl) (by kernel_rfl) (fun x => by kernel_rfl)

theorem law_true (a : Tup (s_laws_FnPlaced.params.map PTy.den)) (hok : argsOk Try.prog s_laws_FnPlaced.params a) : D.laws_FnPlaced a = some true := D.FnPlaced_true a (Ty.ok_bd (P := Try.prog) (t := y32) (by kernel_rfl) hok.1)
theorem lifted (os : Os) (started : os.Started) (H : Type) (enc : TypeId × Value → H) :
    ReturnsInHanded {} Try.checked os 6 .any (Rows.fnPlacedSpec.pre6 enc Try.prog Try.f6 Rows.fnPlacedRow.domain false) (Rows.fnPlacedSpec.post enc Try.prog Try.f6 false true false false) := by
  refine returnsInHanded_of_change_sized (C := Try.checked) (by kernel_rfl) started (by kernel_rfl) Try.func6
    (ChangeSpec.witness6 (enc := enc) (C := Try.checked) false ⟨#[], #[.slice none 0 0], []⟩ 8 (by kernel_rfl) (by kernel_rfl) (by kernel_rfl) (by kernel_rfl)) ?_
  intro W base args ds gs before hval hW hcnd hsz _
  exact law_row (C := Try.checked) rfl c_laws_FnPlaced (N := 8) (by kernel_rfl) (tb := 4) (by kernel_rfl) (by kernel_rfl) (by kernel_rfl) (by kernel_rfl) rfl
    (fun ds h => by
      have h : ds.length = 1 := h
      match ds, h with
      | [d0], _ => rfl)
    bulky_sizeOf (small := fun _ => True) (fun a ds hok _ _ => ⟨_, law_true a hok, rfl⟩) hval hW hsz trivial trivial

theorem over : Rows.fnPlacedRow.holds Try.pinned (OpenSpec.ofChange Rows.fnPlacedSpec) :=
  OpenClaim.holds_of_wide 6 Try.f6 rfl rfl rfl rfl rfl rfl rfl ⟨rfl, rfl, rfl, rfl, rfl⟩ rfl rfl rfl rfl rfl (by kernel_rfl) Try.func6 (by kernel_rfl)
    (of_decide_eq_true (by kernel_rfl)) (by unfold Func.isWrapper; first | (rw [if_pos (by decide +kernel)]; kernel_rfl) | (rw [if_neg (by decide +kernel)]; exact ⟨rfl, rfl⟩))
    (fun os started H enc _ => lifted os started H enc)
end Go.Proofs.Ytekclbjiifiahaa.SxFnPlaced
namespace Go.Proofs.Ytekclbjiifiahaa
theorem fnPlaced_holds : Rows.FnPlacedSaid := SxFnPlaced.over
end Go.Proofs.Ytekclbjiifiahaa
