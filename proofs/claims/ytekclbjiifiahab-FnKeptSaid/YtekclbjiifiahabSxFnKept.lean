/- FnKept returns true for every input, and each input reads as it did. No condition. -/
import Derived.Test.YtekclbjiifiahabRows
import Derived.Test.YtekclbjiifiahabPuFnKept
import Derived.Test.YtekclbjiifiahabEx
import Derived.WalkKit
import Derived.ProofKit
import Derived.ShutString
import Derived.SizedLaws
set_option linter.unusedVariables false
set_option maxRecDepth 100000
set_option maxHeartbeats 4000000
namespace Go.Proofs.Ytekclbjiifiahab.SxFnKept
open Go Go.Sh Go.RowKit
instance laid0 : Laid := ⟨fun _ => True, fun _ => False, fun _ _ _ h => h.elim, fun _ _ _ _ => trivial⟩
def y3 : Ty := .int .i64
def y4 : Ty := .bool
def y5 : Ty := .int .u8
def y35 : Ty := .slice 3 y3
def y37 : Ty := .pair y3 (.pair y35 (.pair y4 y4))
def y24 : Ty := .slice 37 y37
def y31 : Ty := .slice 5 y5
def y68 : Ty := .pair y31 (.pair y3 y3)
def y77 : Ty := .int .u64
def tab : List (TypeId × TI) := [(3, { size := 1, bytes := 8, agg := false, ty := some y3 }),
  (4, { size := 1, bytes := 1, agg := false, ty := some y4 }),
  (5, { size := 1, bytes := 1, agg := false, ty := some y5 }),
  (35, { size := 1, bytes := 24, agg := false, ty := some y35, elem := some 3 }),
  (37, { size := 4, bytes := 40, agg := true, ty := some y37, fields := [(0, 3), (1, 35), (2, 4), (3, 4)] }),
  (24, { size := 1, bytes := 24, agg := false, ty := some y24, elem := some 37 }),
  (31, { size := 1, bytes := 24, agg := false, ty := some y31, elem := some 5 }),
  (68, { size := 3, bytes := 40, agg := true, ty := some y68, fields := [(0, 31), (1, 3), (2, 3)] }),
  (77, { size := 1, bytes := 8, agg := false, ty := some y77 })]
def look : List (TypeId × TI) → TypeId → Option TI
  | [], _ => none
  | (k, i) :: r, t => if Nat.beq t k = true then some i else look r t
theorem look_ok {P : Program} : ∀ {l : List (TypeId × TI)}, (l.all fun p => tiOk P p.1 p.2) = true → ∀ t i, look l t = some i → tiOk P t i = true
  | [], _, t, i, h => by simp [look] at h
  | (k, j) :: r, h0, t, i, h => by
    simp only [List.all_cons, Bool.and_eq_true] at h0
    simp only [look] at h
    split at h
    · rename_i hk
      simp only [Option.some.injEq] at h
      have := Nat.eq_of_beq_eq_true hk
      subst this; subst h; exact h0.1
    · exact look_ok h0.2 t i h
theorem look_eq {P : Program} : ∀ {l : List (TypeId × TI)}, (l.all fun p => !p.2.eq || eqTop P p.1 p.2.ty) = true → ∀ t i, look l t = some i → i.eq = true → ∀ ty, i.ty = some ty → EqLaw P t ty.zero
  | [], _, t, i, h => by simp [look] at h
  | (k, j) :: r, h0, t, i, h => by
    simp only [List.all_cons, Bool.and_eq_true, Bool.or_eq_true, Bool.not_eq_true'] at h0
    simp only [look] at h
    split at h
    · rename_i hk
      simp only [Option.some.injEq] at h
      have := Nat.eq_of_beq_eq_true hk
      subst this; subst h
      intro he
      exact eqLaw_of (h0.1.resolve_left (by simp [he]))
    · exact look_eq h0.2 t i h
def same : List Nat → List Nat → Bool
  | [], [] => true
  | a :: x, b :: y => Nat.beq a b && same x y
  | _, _ => false
theorem same_eq : ∀ {x y : List Nat}, same x y = true → x = y
  | [], [], _ => rfl
  | a :: x, b :: y, h => by
    simp only [same, Bool.and_eq_true] at h
    rw [Nat.eq_of_beq_eq_true h.1, same_eq h.2]
  | [], _ :: _, h => by simp [same] at h
  | _ :: _, [], h => by simp [same] at h
def fns : List (FuncId × List FuncId × Entry) → FuncId → List FuncId → Option Entry
  | [], _, _ => none
  | (k, c, e) :: r, f, fs => if (Nat.beq f k && same fs c) = true then some e else fns r f fs
theorem fns_nil (P : Program) : ∀ f fs en, fns [] f fs = some en → Contract P f en.sig en.F := fun f fs en h => by simp [fns] at h
theorem fns_cons {P : Program} {k : FuncId} {c : List FuncId} {e : Entry} {r : List (FuncId × List FuncId × Entry)} (hk : Contract P k e.sig e.F) (hr : ∀ f fs en, fns r f fs = some en → Contract P f en.sig en.F) : ∀ f fs en, fns ((k, c, e) :: r) f fs = some en → Contract P f en.sig en.F := fun f fs en h => by
  simp only [fns] at h
  split at h
  · rename_i hf
    simp only [Bool.and_eq_true] at hf
    simp only [Option.some.injEq] at h
    have := Nat.eq_of_beq_eq_true hf.1
    subst this; subst h; exact hk
  · exact hr f fs en h

theorem tab_ti : ∀ t i, look tab t = some i → tiOk Try.prog t i = true := look_ok (by kernel_rfl)
theorem tab_eq : ∀ t i, look tab t = some i → i.eq = true → ∀ ty, i.ty = some ty → EqLaw Try.prog t ty.zero := look_eq (by kernel_rfl)
theorem mixed : Try.prog.follows .mixedOrders = true := by kernel_rfl
def s_laws_big : Sig := { params := [.val false y31], res := [.val false y4] }
noncomputable def e_laws_big : Entry := ⟨s_laws_big, fun a => D.laws_big a⟩
noncomputable def v_laws_big : Env := { ti := look tab, Γ := fns [], loop := fun _ => none, cut := fun _ => none, deep := fun _ => false }
theorem c_laws_big : Contract Try.prog 12 e_laws_big.sig e_laws_big.F :=
  den_is (E := v_laws_big) ⟨tab_ti, tab_eq⟩ (fns_nil _) mixed Try.func12 (by kernel_rfl) (by kernel_rfl) (fun x => by kernel_rfl)

def s_spec_l1New : Sig := { params := [.val false y31], res := [.ptr y68] }
noncomputable def e_spec_l1New : Entry := ⟨s_spec_l1New, fun a => D.spec_l1New a⟩
noncomputable def v_spec_l1New : Env := { ti := look tab, Γ := fns [], loop := fun b => match b with | 0 => some [.slot 3 (.int .i64), .slot 4 (.int .i64)] | _ => none, cut := fun _ => none, deep := fun _ => false }
theorem c_spec_l1New : Contract Try.prog 39 e_spec_l1New.sig e_spec_l1New.F :=
  den_is (E := v_spec_l1New) ⟨tab_ti, tab_eq⟩ (fns_nil _) mixed Try.func39 (by kernel_rfl) (by kernel_rfl) (fun x => by kernel_rfl)

def s_spec_l1Byte : Sig := { params := [.ioptr y68], res := [.val false y3] }
noncomputable def e_spec_l1Byte : Entry := ⟨s_spec_l1Byte, fun a => D.spec_l1Byte a⟩
noncomputable def v_spec_l1Byte : Env := { ti := look tab, Γ := fns [], loop := fun _ => none, cut := fun _ => none, deep := fun _ => false }
theorem c_spec_l1Byte : Contract Try.prog 72 e_spec_l1Byte.sig e_spec_l1Byte.F :=
  den_is (E := v_spec_l1Byte) ⟨tab_ti, tab_eq⟩ (fns_nil _) mixed Try.func72 (by kernel_rfl) (by kernel_rfl) (fun x => by kernel_rfl)

def s_spec_l1Below : Sig := { params := [.ioptr y68, .val false y3], res := [.val false y3] }
noncomputable def e_spec_l1Below : Entry := ⟨s_spec_l1Below, fun a => D.spec_l1Below a.1 a.2⟩
noncomputable def v_spec_l1Below : Env := { ti := look tab, Γ := fns [(72, [], e_spec_l1Byte)], loop := fun _ => none, cut := fun _ => none, deep := fun _ => false }
theorem c_spec_l1Below : Contract Try.prog 60 e_spec_l1Below.sig e_spec_l1Below.F :=
  den_is (E := v_spec_l1Below) ⟨tab_ti, tab_eq⟩ (fns_cons c_spec_l1Byte (fns_nil _)) mixed Try.func60 (by kernel_rfl) (by kernel_rfl) (fun x => by kernel_rfl)

def s_spec_l1Once : Sig := { params := [.ioptr y68, .val false y3], res := [.val false y4] }
noncomputable def e_spec_l1Once : Entry := ⟨s_spec_l1Once, fun a => D.spec_l1Once a.1 a.2⟩
noncomputable def v_spec_l1Once : Env := { ti := look tab, Γ := fns [(60, [], e_spec_l1Below)], loop := fun _ => none, cut := fun _ => none, deep := fun _ => false }
theorem c_spec_l1Once : Contract Try.prog 80 e_spec_l1Once.sig e_spec_l1Once.F :=
  den_is (E := v_spec_l1Once) ⟨tab_ti, tab_eq⟩ (fns_cons c_spec_l1Below (fns_nil _)) mixed Try.func80 (by kernel_rfl) (by kernel_rfl) (fun x => by kernel_rfl)

def s_spec_l9Put : Sig := { params := [.val false y35, .val false y3], res := [.row 3 y3 false] }
noncomputable def e_spec_l9Put : Entry := ⟨s_spec_l9Put, fun a => D.spec_l9Put a.1 a.2⟩
noncomputable def v_spec_l9Put : Env := { ti := look tab, Γ := fns [], loop := fun b => match b with | 0 => some [.slot 5 (.int .i64)] | _ => none, cut := fun _ => none, deep := fun _ => false }
theorem c_spec_l9Put : Contract Try.prog 27 e_spec_l9Put.sig e_spec_l9Put.F :=
  den_is (E := v_spec_l9Put) ⟨tab_ti, tab_eq⟩ (fns_nil _) mixed Try.func27 (by kernel_rfl) (by kernel_rfl) (fun x => by kernel_rfl)

def s_spec_l29Draw : Sig := { params := [.ioptr y68], res := [.row 37 y37 false] }
noncomputable def e_spec_l29Draw : Entry := ⟨s_spec_l29Draw, fun a => D.spec_l29Draw a⟩
noncomputable def v_spec_l29Draw : Env := { ti := look tab, Γ := fns [(60, [], e_spec_l1Below), (80, [], e_spec_l1Once), (27, [], e_spec_l9Put)], loop := fun b => match b with | 0 => some [.slot 3 (.own 37 y37 false), .slot 4 (.int .i64), .box 0 [.ro 5 y5, .int .i64, .int .i64]] | 2 => some [.slot 6 (.int .i64), .box 0 [.ro 5 y5, .int .i64, .int .i64], .box 5 [.int .i64, .own 3 y3 false, .bool, .bool]] | _ => none, cut := fun _ => none, deep := fun _ => false }
theorem c_spec_l29Draw : Contract Try.prog 70 e_spec_l29Draw.sig e_spec_l29Draw.F :=
  den_is (E := v_spec_l29Draw) ⟨tab_ti, tab_eq⟩ (fns_cons c_spec_l1Below (fns_cons c_spec_l1Once (fns_cons c_spec_l9Put (fns_nil _)))) mixed Try.func70 (by kernel_rfl) (by kernel_rfl) (fun x => by kernel_rfl)

def s_spec_l1Int : Sig := { params := [.ioptr y68, .val false y35], res := [.val false y3] }
noncomputable def e_spec_l1Int : Entry := ⟨s_spec_l1Int, fun a => D.spec_l1Int a.1 a.2⟩
noncomputable def v_spec_l1Int : Env := { ti := look tab, Γ := fns [(60, [], e_spec_l1Below)], loop := fun _ => none, cut := fun _ => none, deep := fun _ => false }
theorem c_spec_l1Int : Contract Try.prog 40 e_spec_l1Int.sig e_spec_l1Int.F :=
  den_is (E := v_spec_l1Int) ⟨tab_ti, tab_eq⟩ (fns_cons c_spec_l1Below (fns_nil _)) mixed Try.func40 (by kernel_rfl) (by kernel_rfl) (fun x => by kernel_rfl)

def s_spec_l4Raw : Sig := { params := [.ioptr y68], res := [.val false y3] }
noncomputable def e_spec_l4Raw : Entry := ⟨s_spec_l4Raw, fun a => D.spec_l4Raw a⟩
noncomputable def v_spec_l4Raw : Env := { ti := look tab, Γ := fns [(40, [], e_spec_l1Int)], loop := fun _ => none, cut := fun _ => none, deep := fun _ => false }
theorem c_spec_l4Raw : Contract Try.prog 71 e_spec_l4Raw.sig e_spec_l4Raw.F :=
  den_is (E := v_spec_l4Raw) ⟨tab_ti, tab_eq⟩ (fns_cons c_spec_l1Int (fns_nil _)) mixed Try.func71 (by kernel_rfl) (by kernel_rfl) (fun x => by kernel_rfl)

def s_spec_l29Any : Sig := { params := [.ioptr y68], res := [.row 37 y37 false] }
noncomputable def e_spec_l29Any : Entry := ⟨s_spec_l29Any, fun a => D.spec_l29Any a⟩
noncomputable def v_spec_l29Any : Env := { ti := look tab, Γ := fns [(70, [], e_spec_l29Draw), (60, [], e_spec_l1Below), (71, [], e_spec_l4Raw)], loop := fun _ => none, cut := fun _ => none, deep := fun _ => false }
theorem c_spec_l29Any : Contract Try.prog 59 e_spec_l29Any.sig e_spec_l29Any.F :=
  den_is (E := v_spec_l29Any) ⟨tab_ti, tab_eq⟩ (fns_cons c_spec_l29Draw (fns_cons c_spec_l1Below (fns_cons c_spec_l4Raw (fns_nil _)))) mixed Try.func59 (by kernel_rfl) (by kernel_rfl) (fun x => by kernel_rfl)

def s_spec_DrawHoldersOf : Sig := { params := [.val false y31], res := [.row 37 y37 false, .val false y3] }
noncomputable def e_spec_DrawHoldersOf : Entry := ⟨s_spec_DrawHoldersOf, fun a => D.spec_DrawHoldersOf a⟩
noncomputable def v_spec_DrawHoldersOf : Env := { ti := look tab, Γ := fns [(39, [], e_spec_l1New), (59, [], e_spec_l29Any), (60, [], e_spec_l1Below)], loop := fun _ => none, cut := fun _ => none, deep := fun _ => false }
theorem c_spec_DrawHoldersOf : Contract Try.prog 38 e_spec_DrawHoldersOf.sig e_spec_DrawHoldersOf.F :=
  den_is (E := v_spec_DrawHoldersOf) ⟨tab_ti, tab_eq⟩ (fns_cons c_spec_l1New (fns_cons c_spec_l29Any (fns_cons c_spec_l1Below (fns_nil _)))) mixed Try.func38 (by kernel_rfl) (by kernel_rfl) (fun x => by kernel_rfl)

def s_spec_DrawRepairCopies : Sig := { params := [.val false y31], res := [.row 37 y37 false, .val false y3, .val false y3] }
noncomputable def e_spec_DrawRepairCopies : Entry := ⟨s_spec_DrawRepairCopies, fun a => D.spec_DrawRepairCopies a⟩
noncomputable def v_spec_DrawRepairCopies : Env := { ti := look tab, Γ := fns [(38, [], e_spec_DrawHoldersOf), (39, [], e_spec_l1New), (40, [], e_spec_l1Int)], loop := fun _ => none, cut := fun _ => none, deep := fun _ => false }
theorem c_spec_DrawRepairCopies : Contract Try.prog 13 e_spec_DrawRepairCopies.sig e_spec_DrawRepairCopies.F :=
  den_is (E := v_spec_DrawRepairCopies) ⟨tab_ti, tab_eq⟩ (fns_cons c_spec_DrawHoldersOf (fns_cons c_spec_l1New (fns_cons c_spec_l1Int (fns_nil _)))) mixed Try.func13 (by kernel_rfl) (by kernel_rfl) (fun x => by kernel_rfl)

def s_slices_Clone_int : Sig := { params := [.val false y35], res := [.row 3 y3 false] }
noncomputable def e_slices_Clone_int : Entry := ⟨s_slices_Clone_int, fun a => D.slices_Clone_int a⟩
noncomputable def v_slices_Clone_int : Env := { ti := look tab, Γ := fns [], loop := fun _ => none, cut := fun _ => none, deep := fun _ => false }
theorem c_slices_Clone_int : Contract Try.prog 50 e_slices_Clone_int.sig e_slices_Clone_int.F :=
  den_is (E := v_slices_Clone_int) ⟨tab_ti, tab_eq⟩ (fns_nil _) mixed Try.func50 (by kernel_rfl) (by kernel_rfl) (fun x => by kernel_rfl)

def s_impl_copyLibraries : Sig := { params := [.val false y24], res := [.row 37 y37 true] }
noncomputable def e_impl_copyLibraries : Entry := ⟨s_impl_copyLibraries, fun a => D.impl_copyLibraries a⟩
noncomputable def v_impl_copyLibraries : Env := { ti := look tab, Γ := fns [(50, [], e_slices_Clone_int)], loop := fun b => match b with | 0 => some [.slot 3 (.own 37 y37 true), .slot 8 (.int .i64)] | _ => none, cut := fun _ => none, deep := fun t => Nat.beq t 18 }
theorem c_impl_copyLibraries : Contract Try.prog 29 e_impl_copyLibraries.sig e_impl_copyLibraries.F :=
  den_is (E := v_impl_copyLibraries) ⟨tab_ti, tab_eq⟩ (fns_cons c_slices_Clone_int (fns_nil _)) mixed Try.func29 (by kernel_rfl) (by kernel_rfl) (fun x => by kernel_rfl)

def s_impl_InRange : Sig := { params := [.val false y3, .val false y3, .val false y3], res := [.val false y4] }
noncomputable def e_impl_InRange : Entry := ⟨s_impl_InRange, fun a => D.impl_InRange a.1 a.2.1 a.2.2⟩
noncomputable def v_impl_InRange : Env := { ti := look tab, Γ := fns [], loop := fun _ => none, cut := fun _ => none, deep := fun _ => false }
theorem c_impl_InRange : Contract Try.prog 44 e_impl_InRange.sig e_impl_InRange.F :=
  den_is (E := v_impl_InRange) ⟨tab_ti, tab_eq⟩ (fns_nil _) mixed Try.func44 (by kernel_rfl) (by kernel_rfl) (fun x => by kernel_rfl)

def s_impl_sorted : Sig := { params := [.val false y35], res := [.row 3 y3 true] }
noncomputable def e_impl_sorted : Entry := ⟨s_impl_sorted, fun a => D.impl_sorted a⟩
theorem c_impl_sorted : Contract Try.prog 52 e_impl_sorted.sig e_impl_sorted.F := Eq.mp (by kernel_rfl) (Go.Proofs.Ytekclbjiifiahab.Ex.sorted_is)

def s_slices_Equal_int : Sig := { params := [.val false y35, .val false y35], res := [.val false y4] }
noncomputable def e_slices_Equal_int : Entry := ⟨s_slices_Equal_int, fun a => D.slices_Equal_int a.1 a.2⟩
noncomputable def v_slices_Equal_int : Env := { ti := look tab, Γ := fns [], loop := fun b => match b with | 0 => some [.slot 13 (.int .i64)] | _ => none, cut := fun _ => none, deep := fun _ => false }
theorem c_slices_Equal_int : Contract Try.prog 43 e_slices_Equal_int.sig e_slices_Equal_int.F :=
  den_is (E := v_slices_Equal_int) ⟨tab_ti, tab_eq⟩ (fns_nil _) mixed Try.func43 (by kernel_rfl) (by kernel_rfl) (fun x => by kernel_rfl)

def s_impl_ascends : Sig := { params := [.val false y35], res := [.val false y4] }
noncomputable def e_impl_ascends : Entry := ⟨s_impl_ascends, fun a => D.impl_ascends a⟩
noncomputable def v_impl_ascends : Env := { ti := look tab, Γ := fns [(52, [], e_impl_sorted), (43, [], e_slices_Equal_int)], loop := fun _ => none, cut := fun _ => none, deep := fun _ => false }
theorem c_impl_ascends : Contract Try.prog 45 e_impl_ascends.sig e_impl_ascends.F :=
  den_is (E := v_impl_ascends) ⟨tab_ti, tab_eq⟩ (fns_cons c_impl_sorted (fns_cons c_slices_Equal_int (fns_nil _))) mixed Try.func45 (by kernel_rfl) (by kernel_rfl) (fun x => by kernel_rfl)

def s_impl_AreLibraries : Sig := { params := [.val false y24], res := [.val false y4] }
noncomputable def e_impl_AreLibraries : Entry := ⟨s_impl_AreLibraries, fun a => D.impl_AreLibraries a⟩
noncomputable def v_impl_AreLibraries : Env := { ti := look tab, Γ := fns [(44, [], e_impl_InRange), (45, [], e_impl_ascends)], loop := fun b => match b with | 0 => some [.slot 3 (.int .i64), .slot 11 (.int .i64)] | _ => none, cut := fun _ => none, deep := fun _ => false }
theorem c_impl_AreLibraries : Contract Try.prog 16 e_impl_AreLibraries.sig e_impl_AreLibraries.F :=
  den_is (E := v_impl_AreLibraries) ⟨tab_ti, tab_eq⟩ (fns_cons c_impl_InRange (fns_cons c_impl_ascends (fns_nil _))) mixed Try.func16 (by kernel_rfl) (by kernel_rfl) (fun x => by kernel_rfl)

def s_slices_Index_int : Sig := { params := [.val false y35, .val false y3], res := [.val false y3] }
noncomputable def e_slices_Index_int : Entry := ⟨s_slices_Index_int, fun a => D.slices_Index_int a.1 a.2⟩
noncomputable def v_slices_Index_int : Env := { ti := look tab, Γ := fns [], loop := fun b => match b with | 0 => some [.slot 8 (.int .i64)] | _ => none, cut := fun _ => none, deep := fun _ => false }
theorem c_slices_Index_int : Contract Try.prog 51 e_slices_Index_int.sig e_slices_Index_int.F :=
  den_is (E := v_slices_Index_int) ⟨tab_ti, tab_eq⟩ (fns_nil _) mixed Try.func51 (by kernel_rfl) (by kernel_rfl) (fun x => by kernel_rfl)

def s_slices_Contains_int : Sig := { params := [.val false y35, .val false y3], res := [.val false y4] }
noncomputable def e_slices_Contains_int : Entry := ⟨s_slices_Contains_int, fun a => D.slices_Contains_int a.1 a.2⟩
noncomputable def v_slices_Contains_int : Env := { ti := look tab, Γ := fns [(51, [], e_slices_Index_int)], loop := fun _ => none, cut := fun _ => none, deep := fun _ => false }
theorem c_slices_Contains_int : Contract Try.prog 30 e_slices_Contains_int.sig e_slices_Contains_int.F :=
  den_is (E := v_slices_Contains_int) ⟨tab_ti, tab_eq⟩ (fns_cons c_slices_Index_int (fns_nil _)) mixed Try.func30 (by kernel_rfl) (by kernel_rfl) (fun x => by kernel_rfl)

def s_impl_GoodCopies : Sig := { params := [.val false y24, .val false y3], res := [.val false y3] }
noncomputable def e_impl_GoodCopies : Entry := ⟨s_impl_GoodCopies, fun a => D.impl_GoodCopies a.1 a.2⟩
noncomputable def v_impl_GoodCopies : Env := { ti := look tab, Γ := fns [(30, [], e_slices_Contains_int)], loop := fun b => match b with | 0 => some [.slot 5 (.int .i64), .slot 10 (.int .i64)] | _ => none, cut := fun _ => none, deep := fun _ => false }
theorem c_impl_GoodCopies : Contract Try.prog 18 e_impl_GoodCopies.sig e_impl_GoodCopies.F :=
  den_is (E := v_impl_GoodCopies) ⟨tab_ti, tab_eq⟩ (fns_cons c_slices_Contains_int (fns_nil _)) mixed Try.func18 (by kernel_rfl) (by kernel_rfl) (fun x => by kernel_rfl)

def s_impl_Mod : Sig := { params := [.val false y3, .val false y3], res := [.val false y3] }
noncomputable def e_impl_Mod : Entry := ⟨s_impl_Mod, fun a => D.impl_Mod a.1 a.2⟩
noncomputable def v_impl_Mod : Env := { ti := look tab, Γ := fns [(44, [], e_impl_InRange)], loop := fun _ => none, cut := fun _ => none, deep := fun _ => false }
theorem c_impl_Mod : Contract Try.prog 66 e_impl_Mod.sig e_impl_Mod.F :=
  den_is (E := v_impl_Mod) ⟨tab_ti, tab_eq⟩ (fns_cons c_impl_InRange (fns_nil _)) mixed Try.func66 (by kernel_rfl) (by kernel_rfl) (fun x => by kernel_rfl)

def s_impl_Hash : Sig := { params := [.val false y35], res := [.val false y3] }
noncomputable def e_impl_Hash : Entry := ⟨s_impl_Hash, fun a => D.impl_Hash a⟩
noncomputable def v_impl_Hash : Env := { ti := look tab, Γ := fns [(66, [], e_impl_Mod)], loop := fun b => match b with | 0 => some [.slot 3 (.int .i64), .slot 8 (.int .i64)] | _ => none, cut := fun _ => none, deep := fun _ => false }
theorem c_impl_Hash : Contract Try.prog 67 e_impl_Hash.sig e_impl_Hash.F :=
  den_is (E := v_impl_Hash) ⟨tab_ti, tab_eq⟩ (fns_cons c_impl_Mod (fns_nil _)) mixed Try.func67 (by kernel_rfl) (by kernel_rfl) (fun x => by kernel_rfl)

def s_impl_RankOf : Sig := { params := [.val false y3, .val false y3], res := [.val false y3] }
noncomputable def e_impl_RankOf : Entry := ⟨s_impl_RankOf, fun a => D.impl_RankOf a.1 a.2⟩
noncomputable def v_impl_RankOf : Env := { ti := look tab, Γ := fns [(67, [], e_impl_Hash), (66, [], e_impl_Mod)], loop := fun _ => none, cut := fun _ => none, deep := fun _ => false }
theorem c_impl_RankOf : Contract Try.prog 56 e_impl_RankOf.sig e_impl_RankOf.F :=
  den_is (E := v_impl_RankOf) ⟨tab_ti, tab_eq⟩ (fns_cons c_impl_Hash (fns_cons c_impl_Mod (fns_nil _))) mixed Try.func56 (by kernel_rfl) (by kernel_rfl) (fun x => by kernel_rfl)

def s_cmp_isNaN_int : Sig := { params := [.val false y3], res := [.val false y4] }
noncomputable def e_cmp_isNaN_int : Entry := ⟨s_cmp_isNaN_int, fun a => D.cmp_isNaN_int a⟩
noncomputable def v_cmp_isNaN_int : Env := { ti := look tab, Γ := fns [], loop := fun _ => none, cut := fun _ => none, deep := fun _ => false }
theorem c_cmp_isNaN_int : Contract Try.prog 65 e_cmp_isNaN_int.sig e_cmp_isNaN_int.F :=
  den_is (E := v_cmp_isNaN_int) ⟨tab_ti, tab_eq⟩ (fns_nil _) mixed Try.func65 (by kernel_rfl) (by kernel_rfl) (fun x => by kernel_rfl)

def s_cmp_Compare_int : Sig := { params := [.val false y3, .val false y3], res := [.val false y3] }
noncomputable def e_cmp_Compare_int : Entry := ⟨s_cmp_Compare_int, fun a => D.cmp_Compare_int a.1 a.2⟩
noncomputable def v_cmp_Compare_int : Env := { ti := look tab, Γ := fns [(65, [], e_cmp_isNaN_int)], loop := fun _ => none, cut := fun _ => none, deep := fun _ => false }
theorem c_cmp_Compare_int : Contract Try.prog 55 e_cmp_Compare_int.sig e_cmp_Compare_int.F :=
  den_is (E := v_cmp_Compare_int) ⟨tab_ti, tab_eq⟩ (fns_cons c_cmp_isNaN_int (fns_nil _)) mixed Try.func55 (by kernel_rfl) (by kernel_rfl) (fun x => by kernel_rfl)

def s_impl_OrderFor_1 : Sig := { params := [.val false y3, .val false y3, .cptr y3], res := [.val false y3] }
noncomputable def e_impl_OrderFor_1 : Entry := ⟨s_impl_OrderFor_1, fun a => D.impl_OrderFor_1 a.1 a.2.1 a.2.2⟩
noncomputable def v_impl_OrderFor_1 : Env := { ti := look tab, Γ := fns [(56, [], e_impl_RankOf), (55, [], e_cmp_Compare_int)], loop := fun _ => none, cut := fun _ => none, deep := fun _ => false }
theorem c_impl_OrderFor_1 : Contract Try.prog 54 e_impl_OrderFor_1.sig e_impl_OrderFor_1.F :=
  den_is (E := v_impl_OrderFor_1) ⟨tab_ti, tab_eq⟩ (fns_cons c_impl_RankOf (fns_cons c_cmp_Compare_int (fns_nil _))) mixed Try.func54 (by kernel_rfl) (by kernel_rfl) (fun x => by kernel_rfl)

def s_slices_insertionSortCmpFunc_int_impl_OrderFor_1 : Sig := { params := [.io 3 y3, .val false y3, .val false y3, .fn 54 [y3]], res := [] }
noncomputable def e_slices_insertionSortCmpFunc_int_impl_OrderFor_1 : Entry := ⟨s_slices_insertionSortCmpFunc_int_impl_OrderFor_1, fun a => D.slices_insertionSortCmpFunc_int_impl_OrderFor_1 a.1 a.2.1 a.2.2.1 a.2.2.2⟩
noncomputable def v_slices_insertionSortCmpFunc_int_impl_OrderFor_1 : Env := { ti := look tab, Γ := fns [(54, [], e_impl_OrderFor_1)], loop := fun b => match b with | 0 => some [.slot 8 (.int .i64), .vec 0 3 y3 true] | 2 => some [.slot 9 (.int .i64), .vec 0 3 y3 true] | _ => none, cut := fun _ => none, deep := fun _ => false }
theorem c_slices_insertionSortCmpFunc_int_impl_OrderFor_1 : Contract Try.prog 77 e_slices_insertionSortCmpFunc_int_impl_OrderFor_1.sig e_slices_insertionSortCmpFunc_int_impl_OrderFor_1.F :=
  den_is (E := v_slices_insertionSortCmpFunc_int_impl_OrderFor_1) ⟨tab_ti, tab_eq⟩ (fns_cons c_impl_OrderFor_1 (fns_nil _)) mixed Try.func77 (by kernel_rfl) (by kernel_rfl) (fun x => by kernel_rfl)

def s_slices_swapRangeCmpFunc_int_impl_OrderFor_1 : Sig := { params := [.io 3 y3, .val false y3, .val false y3, .val false y3, .fn 54 [y3]], res := [] }
noncomputable def e_slices_swapRangeCmpFunc_int_impl_OrderFor_1 : Entry := ⟨s_slices_swapRangeCmpFunc_int_impl_OrderFor_1, fun a => D.slices_swapRangeCmpFunc_int_impl_OrderFor_1 a.1 a.2.1 a.2.2.1 a.2.2.2.1 a.2.2.2.2⟩
noncomputable def v_slices_swapRangeCmpFunc_int_impl_OrderFor_1 : Env := { ti := look tab, Γ := fns [], loop := fun b => match b with | 0 => some [.slot 10 (.int .i64), .vec 0 3 y3 true] | _ => none, cut := fun _ => none, deep := fun _ => false }
theorem c_slices_swapRangeCmpFunc_int_impl_OrderFor_1 : Contract Try.prog 99 e_slices_swapRangeCmpFunc_int_impl_OrderFor_1.sig e_slices_swapRangeCmpFunc_int_impl_OrderFor_1.F :=
  den_is (E := v_slices_swapRangeCmpFunc_int_impl_OrderFor_1) ⟨tab_ti, tab_eq⟩ (fns_nil _) mixed Try.func99 (by kernel_rfl) (by kernel_rfl) (fun x => by kernel_rfl)

def s_slices_rotateCmpFunc_int_impl_OrderFor_1 : Sig := { params := [.io 3 y3, .val false y3, .val false y3, .val false y3, .fn 54 [y3]], res := [] }
noncomputable def e_slices_rotateCmpFunc_int_impl_OrderFor_1 : Entry := ⟨s_slices_rotateCmpFunc_int_impl_OrderFor_1, fun a => D.slices_rotateCmpFunc_int_impl_OrderFor_1 a.1 a.2.1 a.2.2.1 a.2.2.2.1 a.2.2.2.2⟩
noncomputable def v_slices_rotateCmpFunc_int_impl_OrderFor_1 : Env := { ti := look tab, Γ := fns [(99, [54], e_slices_swapRangeCmpFunc_int_impl_OrderFor_1)], loop := fun b => match b with | 0 => some [.slot 10 (.int .i64), .slot 11 (.int .i64), .vec 0 3 y3 true] | _ => none, cut := fun _ => none, deep := fun _ => false }
theorem c_slices_rotateCmpFunc_int_impl_OrderFor_1 : Contract Try.prog 92 e_slices_rotateCmpFunc_int_impl_OrderFor_1.sig e_slices_rotateCmpFunc_int_impl_OrderFor_1.F :=
  den_is (E := v_slices_rotateCmpFunc_int_impl_OrderFor_1) ⟨tab_ti, tab_eq⟩ (fns_cons c_slices_swapRangeCmpFunc_int_impl_OrderFor_1 (fns_nil _)) mixed Try.func92 (by kernel_rfl) (by kernel_rfl) (fun x => by kernel_rfl)

def s_slices_symMergeCmpFunc_int_impl_OrderFor_1 : Sig := { params := [.io 3 y3, .val false y3, .val false y3, .val false y3, .fn 54 [y3]], res := [] }
noncomputable def e_slices_symMergeCmpFunc_int_impl_OrderFor_1 : Entry := ⟨s_slices_symMergeCmpFunc_int_impl_OrderFor_1, fun a => D.slices_symMergeCmpFunc_int_impl_OrderFor_1 a.1 a.2.1 a.2.2.1 a.2.2.2.1 a.2.2.2.2⟩
noncomputable def v_slices_symMergeCmpFunc_int_impl_OrderFor_1 (n : Nat) : Env := { ti := look tab, Γ := fns [(54, [], e_impl_OrderFor_1), (92, [54], e_slices_rotateCmpFunc_int_impl_OrderFor_1), (78, [54], ⟨s_slices_symMergeCmpFunc_int_impl_OrderFor_1, fun a => D.slices_symMergeCmpFunc_int_impl_OrderFor_1_f n a.1 a.2.1 a.2.2.1 a.2.2.2.1 a.2.2.2.2⟩)], loop := fun b => match b with | 0 => some [.slot 10 (.int .i64), .slot 11 (.int .i64)] | 2 => some [.slot 13 (.int .i64), .vec 0 3 y3 true] | 4 => some [.slot 14 (.int .i64), .slot 15 (.int .i64)] | 6 => some [.slot 17 (.int .i64), .vec 0 3 y3 true] | 8 => some [.slot 20 (.int .i64), .slot 21 (.int .i64)] | _ => none, cut := fun _ => none, deep := fun _ => false }
theorem cf_slices_symMergeCmpFunc_int_impl_OrderFor_1 : ∀ n : Nat, Contract Try.prog 78 s_slices_symMergeCmpFunc_int_impl_OrderFor_1 (fun a => D.slices_symMergeCmpFunc_int_impl_OrderFor_1_f n a.1 a.2.1 a.2.2.1 a.2.2.2.1 a.2.2.2.2)
  | 0 => ⟨⟨_, Try.func78, by kernel_rfl, by kernel_rfl⟩, fun a out w S lent cx vals hF => by cases hF⟩
  | n + 1 => have ih := cf_slices_symMergeCmpFunc_int_impl_OrderFor_1 n; den_is (E := v_slices_symMergeCmpFunc_int_impl_OrderFor_1 n) ⟨tab_ti, tab_eq⟩ (fns_cons c_impl_OrderFor_1 (fns_cons c_slices_rotateCmpFunc_int_impl_OrderFor_1 (fns_cons ih (fns_nil _)))) mixed Try.func78 (by kernel_rfl) (by kernel_rfl) (fun x => by kernel_rfl)
theorem c_slices_symMergeCmpFunc_int_impl_OrderFor_1 : Contract Try.prog 78 e_slices_symMergeCmpFunc_int_impl_OrderFor_1.sig e_slices_symMergeCmpFunc_int_impl_OrderFor_1.F := ⟨(cf_slices_symMergeCmpFunc_int_impl_OrderFor_1 0).1, fun a => (cf_slices_symMergeCmpFunc_int_impl_OrderFor_1 (a.1.length + 1)).2 a⟩

def s_slices_stableCmpFunc_int_impl_OrderFor_1 : Sig := { params := [.io 3 y3, .val false y3, .fn 54 [y3]], res := [] }
noncomputable def e_slices_stableCmpFunc_int_impl_OrderFor_1 : Entry := ⟨s_slices_stableCmpFunc_int_impl_OrderFor_1, fun a => D.slices_stableCmpFunc_int_impl_OrderFor_1 a.1 a.2.1 a.2.2⟩
noncomputable def v_slices_stableCmpFunc_int_impl_OrderFor_1 : Env := { ti := look tab, Γ := fns [(77, [54], e_slices_insertionSortCmpFunc_int_impl_OrderFor_1), (78, [54], e_slices_symMergeCmpFunc_int_impl_OrderFor_1)], loop := fun b => match b with | 0 => some [.slot 7 (.int .i64), .slot 8 (.int .i64), .vec 0 3 y3 true] | 2 => some [.slot 6 (.int .i64), .vec 0 3 y3 true] | 4 => some [.slot 7 (.int .i64), .slot 8 (.int .i64), .vec 0 3 y3 true] | _ => none, cut := fun _ => none, deep := fun _ => false }
theorem c_slices_stableCmpFunc_int_impl_OrderFor_1 : Contract Try.prog 64 e_slices_stableCmpFunc_int_impl_OrderFor_1.sig e_slices_stableCmpFunc_int_impl_OrderFor_1.F :=
  den_is (E := v_slices_stableCmpFunc_int_impl_OrderFor_1) ⟨tab_ti, tab_eq⟩ (fns_cons c_slices_insertionSortCmpFunc_int_impl_OrderFor_1 (fns_cons c_slices_symMergeCmpFunc_int_impl_OrderFor_1 (fns_nil _))) mixed Try.func64 (by kernel_rfl) (by kernel_rfl) (fun x => by kernel_rfl)

def s_slices_SortStableFunc_int_impl_OrderFor_1 : Sig := { params := [.io 3 y3, .fn 54 [y3]], res := [] }
noncomputable def e_slices_SortStableFunc_int_impl_OrderFor_1 : Entry := ⟨s_slices_SortStableFunc_int_impl_OrderFor_1, fun a => D.slices_SortStableFunc_int_impl_OrderFor_1 a.1 a.2⟩
noncomputable def v_slices_SortStableFunc_int_impl_OrderFor_1 : Env := { ti := look tab, Γ := fns [(64, [54], e_slices_stableCmpFunc_int_impl_OrderFor_1)], loop := fun _ => none, cut := fun _ => none, deep := fun _ => false }
theorem c_slices_SortStableFunc_int_impl_OrderFor_1 : Contract Try.prog 53 e_slices_SortStableFunc_int_impl_OrderFor_1.sig e_slices_SortStableFunc_int_impl_OrderFor_1.F :=
  den_is (E := v_slices_SortStableFunc_int_impl_OrderFor_1) ⟨tab_ti, tab_eq⟩ (fns_cons c_slices_stableCmpFunc_int_impl_OrderFor_1 (fns_nil _)) mixed Try.func53 (by kernel_rfl) (by kernel_rfl) (fun x => by kernel_rfl)

def s_impl_OrderFor : Sig := { params := [.val false y35, .val false y3], res := [.row 3 y3 false] }
noncomputable def e_impl_OrderFor : Entry := ⟨s_impl_OrderFor, fun a => D.impl_OrderFor a.1 a.2⟩
noncomputable def v_impl_OrderFor : Env := { ti := look tab, Γ := fns [(52, [], e_impl_sorted), (53, [54], e_slices_SortStableFunc_int_impl_OrderFor_1)], loop := fun _ => none, cut := fun _ => none, deep := fun _ => false }
theorem c_impl_OrderFor : Contract Try.prog 31 e_impl_OrderFor.sig e_impl_OrderFor.F :=
  den_is (E := v_impl_OrderFor) ⟨tab_ti, tab_eq⟩ (fns_cons c_impl_sorted (fns_cons c_slices_SortStableFunc_int_impl_OrderFor_1 (fns_nil _))) mixed Try.func31 (by kernel_rfl) (by kernel_rfl) (fun x => by kernel_rfl)

def s_impl_HoldersOf : Sig := { params := [.val false y24, .val false y3], res := [.row 3 y3 false] }
noncomputable def e_impl_HoldersOf : Entry := ⟨s_impl_HoldersOf, fun a => D.impl_HoldersOf a.1 a.2⟩
noncomputable def v_impl_HoldersOf : Env := { ti := look tab, Γ := fns [(30, [], e_slices_Contains_int)], loop := fun b => match b with | 0 => some [.slot 5 (.own 3 y3 false), .slot 10 (.int .i64)] | _ => none, cut := fun _ => none, deep := fun _ => false }
theorem c_impl_HoldersOf : Contract Try.prog 15 e_impl_HoldersOf.sig e_impl_HoldersOf.F :=
  den_is (E := v_impl_HoldersOf) ⟨tab_ti, tab_eq⟩ (fns_cons c_slices_Contains_int (fns_nil _)) mixed Try.func15 (by kernel_rfl) (by kernel_rfl) (fun x => by kernel_rfl)

def s_impl_RepairCopies_1 : Sig := { params := [.val true y37, .cptr y3], res := [.val false y4] }
noncomputable def e_impl_RepairCopies_1 : Entry := ⟨s_impl_RepairCopies_1, fun a => D.impl_RepairCopies_1 a.1 a.2⟩
noncomputable def v_impl_RepairCopies_1 : Env := { ti := look tab, Γ := fns [], loop := fun _ => none, cut := fun _ => none, deep := fun _ => false }
theorem c_impl_RepairCopies_1 : Contract Try.prog 33 e_impl_RepairCopies_1.sig e_impl_RepairCopies_1.F :=
  den_is (E := v_impl_RepairCopies_1) ⟨tab_ti, tab_eq⟩ (fns_nil _) mixed Try.func33 (by kernel_rfl) (by kernel_rfl) (fun x => by kernel_rfl)

def s_slices_IndexFunc_Library_impl_RepairCopies_1 : Sig := { params := [.val false y24, .fn 33 [y3]], res := [.val false y3] }
noncomputable def e_slices_IndexFunc_Library_impl_RepairCopies_1 : Entry := ⟨s_slices_IndexFunc_Library_impl_RepairCopies_1, fun a => D.slices_IndexFunc_Library_impl_RepairCopies_1 a.1 a.2⟩
noncomputable def v_slices_IndexFunc_Library_impl_RepairCopies_1 : Env := { ti := look tab, Γ := fns [(33, [], e_impl_RepairCopies_1)], loop := fun b => match b with | 0 => some [.slot 8 (.int .i64)] | _ => none, cut := fun _ => none, deep := fun _ => false }
theorem c_slices_IndexFunc_Library_impl_RepairCopies_1 : Contract Try.prog 32 e_slices_IndexFunc_Library_impl_RepairCopies_1.sig e_slices_IndexFunc_Library_impl_RepairCopies_1.F :=
  den_is (E := v_slices_IndexFunc_Library_impl_RepairCopies_1) ⟨tab_ti, tab_eq⟩ (fns_cons c_impl_RepairCopies_1 (fns_nil _)) mixed Try.func32 (by kernel_rfl) (by kernel_rfl) (fun x => by kernel_rfl)

def s_impl_withDigest : Sig := { params := [.val false y35, .val false y3], res := [.row 3 y3 true] }
noncomputable def e_impl_withDigest : Entry := ⟨s_impl_withDigest, fun a => D.impl_withDigest a.1 a.2⟩
theorem c_impl_withDigest : Contract Try.prog 34 e_impl_withDigest.sig e_impl_withDigest.F := Eq.mp (by kernel_rfl) (Go.Proofs.Ytekclbjiifiahab.Ex.withDigest_is)

def s_impl_RepairCopies : Sig := { params := [.val false y24, .val false y3, .val false y3], res := [.row 37 y37 true, .val false y4] }
noncomputable def e_impl_RepairCopies : Entry := ⟨s_impl_RepairCopies, fun a => D.impl_RepairCopies a.1 a.2.1 a.2.2⟩
noncomputable def v_impl_RepairCopies : Env := { ti := look tab, Γ := fns [(29, [], e_impl_copyLibraries), (16, [], e_impl_AreLibraries), (18, [], e_impl_GoodCopies), (30, [], e_slices_Contains_int), (31, [], e_impl_OrderFor), (15, [], e_impl_HoldersOf), (32, [33], e_slices_IndexFunc_Library_impl_RepairCopies_1), (34, [], e_impl_withDigest)], loop := fun b => match b with | 0 => some [.slot 9 (.own 3 y3 false), .slot 29 (.int .i64)] | 2 => some [.slot 52 (.int .i64), .vec 8 37 y37 true] | _ => none, cut := fun _ => none, deep := fun _ => false }
theorem c_impl_RepairCopies : Contract Try.prog 8 e_impl_RepairCopies.sig e_impl_RepairCopies.F :=
  den_is (E := v_impl_RepairCopies) ⟨tab_ti, tab_eq⟩ (fns_cons c_impl_copyLibraries (fns_cons c_impl_AreLibraries (fns_cons c_impl_GoodCopies (fns_cons c_slices_Contains_int (fns_cons c_impl_OrderFor (fns_cons c_impl_HoldersOf (fns_cons c_slices_IndexFunc_Library_impl_RepairCopies_1 (fns_cons c_impl_withDigest (fns_nil _))))))))) mixed Try.func8 (by kernel_rfl) (by kernel_rfl) (fun x => by kernel_rfl)

def s_impl_EqualLibraries_1 : Sig := { params := [.val true y37, .val true y37], res := [.val false y4] }
noncomputable def e_impl_EqualLibraries_1 : Entry := ⟨s_impl_EqualLibraries_1, fun a => D.impl_EqualLibraries_1 a.1 a.2⟩
noncomputable def v_impl_EqualLibraries_1 : Env := { ti := look tab, Γ := fns [(43, [], e_slices_Equal_int)], loop := fun _ => none, cut := fun _ => none, deep := fun _ => false }
theorem c_impl_EqualLibraries_1 : Contract Try.prog 42 e_impl_EqualLibraries_1.sig e_impl_EqualLibraries_1.F :=
  den_is (E := v_impl_EqualLibraries_1) ⟨tab_ti, tab_eq⟩ (fns_cons c_slices_Equal_int (fns_nil _)) mixed Try.func42 (by kernel_rfl) (by kernel_rfl) (fun x => by kernel_rfl)

def s_slices_EqualFunc_Library_impl_EqualLibraries_1 : Sig := { params := [.val false y24, .val false y24, .fn 42 []], res := [.val false y4] }
noncomputable def e_slices_EqualFunc_Library_impl_EqualLibraries_1 : Entry := ⟨s_slices_EqualFunc_Library_impl_EqualLibraries_1, fun a => D.slices_EqualFunc_Library_impl_EqualLibraries_1 a.1 a.2.1⟩
noncomputable def v_slices_EqualFunc_Library_impl_EqualLibraries_1 : Env := { ti := look tab, Γ := fns [(42, [], e_impl_EqualLibraries_1)], loop := fun b => match b with | 0 => some [.slot 17 (.int .i64)] | _ => none, cut := fun _ => none, deep := fun _ => false }
theorem c_slices_EqualFunc_Library_impl_EqualLibraries_1 : Contract Try.prog 41 e_slices_EqualFunc_Library_impl_EqualLibraries_1.sig e_slices_EqualFunc_Library_impl_EqualLibraries_1.F :=
  den_is (E := v_slices_EqualFunc_Library_impl_EqualLibraries_1) ⟨tab_ti, tab_eq⟩ (fns_cons c_impl_EqualLibraries_1 (fns_nil _)) mixed Try.func41 (by kernel_rfl) (by kernel_rfl) (fun x => by kernel_rfl)

def s_impl_EqualLibraries : Sig := { params := [.val false y24, .val false y24], res := [.val false y4] }
noncomputable def e_impl_EqualLibraries : Entry := ⟨s_impl_EqualLibraries, fun a => D.impl_EqualLibraries a.1 a.2⟩
noncomputable def v_impl_EqualLibraries : Env := { ti := look tab, Γ := fns [(41, [42], e_slices_EqualFunc_Library_impl_EqualLibraries_1)], loop := fun _ => none, cut := fun _ => none, deep := fun _ => false }
theorem c_impl_EqualLibraries : Contract Try.prog 14 e_impl_EqualLibraries.sig e_impl_EqualLibraries.F :=
  den_is (E := v_impl_EqualLibraries) ⟨tab_ti, tab_eq⟩ (fns_cons c_slices_EqualFunc_Library_impl_EqualLibraries_1 (fns_nil _)) mixed Try.func14 (by kernel_rfl) (by kernel_rfl) (fun x => by kernel_rfl)

def s_impl_CanProduce : Sig := { params := [.val false y24, .val false y3], res := [.val false y4] }
noncomputable def e_impl_CanProduce : Entry := ⟨s_impl_CanProduce, fun a => D.impl_CanProduce a.1 a.2⟩
noncomputable def v_impl_CanProduce : Env := { ti := look tab, Γ := fns [(18, [], e_impl_GoodCopies)], loop := fun _ => none, cut := fun _ => none, deep := fun _ => false }
theorem c_impl_CanProduce : Contract Try.prog 17 e_impl_CanProduce.sig e_impl_CanProduce.F :=
  den_is (E := v_impl_CanProduce) ⟨tab_ti, tab_eq⟩ (fns_cons c_impl_GoodCopies (fns_nil _)) mixed Try.func17 (by kernel_rfl) (by kernel_rfl) (fun x => by kernel_rfl)

def s_laws_at : Sig := { params := [.val false y31, .val false y3], res := [.val false y3] }
noncomputable def e_laws_at : Entry := ⟨s_laws_at, fun a => D.laws_at a.1 a.2⟩
noncomputable def v_laws_at : Env := { ti := look tab, Γ := fns [], loop := fun _ => none, cut := fun _ => none, deep := fun _ => false }
theorem c_laws_at : Contract Try.prog 19 e_laws_at.sig e_laws_at.F :=
  den_is (E := v_laws_at) ⟨tab_ti, tab_eq⟩ (fns_nil _) mixed Try.func19 (by kernel_rfl) (by kernel_rfl) (fun x => by kernel_rfl)

def s_laws_FnKept : Sig := { params := [.val false y31], res := [.val false y4] }
noncomputable def e_laws_FnKept : Entry := ⟨s_laws_FnKept, fun a => D.laws_FnKept a⟩
noncomputable def v_laws_FnKept : Env := { ti := look tab, Γ := fns [(12, [], e_laws_big), (13, [], e_spec_DrawRepairCopies), (8, [], e_impl_RepairCopies), (14, [], e_impl_EqualLibraries), (15, [], e_impl_HoldersOf), (16, [], e_impl_AreLibraries), (17, [], e_impl_CanProduce), (18, [], e_impl_GoodCopies), (19, [], e_laws_at)], loop := fun b => match b with | 0 => some [.slot 8 (.int .i64), .slot 9 (.int .i64)] | 2 => some [.slot 12 (.int .i64), .slot 13 (.int .i64), .vec 6 37 y37 true] | _ => none, cut := fun _ => none, deep := fun _ => false }
theorem c_laws_FnKept : Contract Try.prog 4 e_laws_FnKept.sig e_laws_FnKept.F :=
  den_is (E := v_laws_FnKept) ⟨tab_ti, tab_eq⟩ (fns_cons c_laws_big (fns_cons c_spec_DrawRepairCopies (fns_cons c_impl_RepairCopies (fns_cons c_impl_EqualLibraries (fns_cons c_impl_HoldersOf (fns_cons c_impl_AreLibraries (fns_cons c_impl_CanProduce (fns_cons c_impl_GoodCopies (fns_cons c_laws_at (fns_nil _)))))))))) mixed Try.func4 (by kernel_rfl) (by kernel_rfl) (fun x => by kernel_rfl)

theorem law_true (a : Tup (s_laws_FnKept.params.map PTy.den)) (hok : argsOk Try.prog s_laws_FnKept.params a) : D.laws_FnKept a = some true := D.FnKept_true a (Ty.ok_bd (P := Try.prog) (t := y31) (by kernel_rfl) hok.1)
theorem lifted (os : Os) (started : os.Started) (H : Type) (enc : TypeId × Value → H) :
    ReturnsInHanded {} Try.checked os 4 .any (Rows.fnKeptSpec.pre6 enc Try.prog Try.f4 Rows.fnKeptRow.domain false) (Rows.fnKeptSpec.post enc Try.prog Try.f4 false true false false) := by
  refine returnsInHanded_of_change_sized (C := Try.checked) (by kernel_rfl) started (by kernel_rfl) Try.func4
    (ChangeSpec.witness6 (enc := enc) (C := Try.checked) false ⟨#[], #[.slice none 0 0], []⟩ 8 (by kernel_rfl) (by kernel_rfl) (by kernel_rfl) (by kernel_rfl)) ?_
  intro W base args ds gs before hval hW hcnd hsz _
  exact law_row (C := Try.checked) rfl c_laws_FnKept (N := 8) (by kernel_rfl) (tb := 4) (by kernel_rfl) (by kernel_rfl) (by kernel_rfl) (by kernel_rfl) rfl
    (fun ds h => by
      have h : ds.length = 1 := h
      match ds, h with
      | [d0], _ => rfl)
    bulky_sizeOf (small := fun _ => True) (fun a ds hok _ _ => ⟨_, law_true a hok, rfl⟩) hval hW hsz trivial trivial

theorem over : Rows.fnKeptRow.holds Try.pinned (OpenSpec.ofChange Rows.fnKeptSpec) :=
  OpenClaim.holds_of_wide 4 Try.f4 rfl rfl rfl rfl rfl rfl rfl ⟨rfl, rfl, rfl, rfl, rfl⟩ rfl rfl rfl rfl rfl (by kernel_rfl) Try.func4 (by kernel_rfl)
    (of_decide_eq_true (by kernel_rfl)) (by unfold Func.isWrapper; first | (rw [if_pos (by decide +kernel)]; kernel_rfl) | (rw [if_neg (by decide +kernel)]; exact ⟨rfl, rfl⟩))
    (fun os started H enc _ => lifted os started H enc)
end Go.Proofs.Ytekclbjiifiahab.SxFnKept
namespace Go.Proofs.Ytekclbjiifiahab
theorem fnKept_holds : Rows.FnKeptSaid := SxFnKept.over
end Go.Proofs.Ytekclbjiifiahab
