/- FnExcluded returns true for every input, and each input reads as it did. No condition. -/
import Derived.Test.YtomfcmpdjfdnhaaRows
import Derived.Test.YtomfcmpdjfdnhaaPuFnExcluded
import Derived.WalkKit
import Derived.ProofKit
import Derived.ShutString
import Derived.SizedLaws
set_option linter.unusedVariables false
set_option maxRecDepth 100000
set_option maxHeartbeats 4000000
namespace Go.Proofs.Ytomfcmpdjfdnhaa.SxFnExcluded
open Go Go.Sh Go.RowKit
def y3 : Ty := .int .i64
def y4 : Ty := .bool
def y5 : Ty := .int .u8
def y22 : Ty := .slice 3 y3
def y29 : Ty := .pair y3 (.pair y3 y3)
def y31 : Ty := .pair y3 (.pair y22 y29)
def y44 : Ty := .pair y29 (.pair y3 y31)
def y67 : Ty := .pair y3 (.pair y3 (.pair y3 (.pair y3 y3)))
def y46 : Ty := .slice 67 y67
def y51 : Ty := .slice 5 y5
def y61 : Ty := .slice 44 y44
def y167 : Ty := .pair y51 (.pair y3 y3)
def tab : List (TypeId × TI) := [(3, { size := 1, bytes := 8, agg := false, ty := some y3 }),
  (4, { size := 1, bytes := 1, agg := false, ty := some y4 }),
  (5, { size := 1, bytes := 1, agg := false, ty := some y5 }),
  (22, { size := 1, bytes := 24, agg := false, ty := some y22, elem := some 3 }),
  (29, { size := 3, bytes := 24, agg := true, ty := some y29, fields := [(0, 3), (1, 3), (2, 3)], eq := true }),
  (31, { size := 5, bytes := 56, agg := true, ty := some y31, fields := [(0, 3), (1, 22), (2, 29)] }),
  (44, { size := 9, bytes := 88, agg := true, ty := some y44, fields := [(0, 29), (3, 3), (4, 31)] }),
  (67, { size := 5, bytes := 40, agg := true, ty := some y67, fields := [(0, 3), (1, 3), (2, 3), (3, 3), (4, 3)] }),
  (46, { size := 1, bytes := 24, agg := false, ty := some y46, elem := some 67 }),
  (51, { size := 1, bytes := 24, agg := false, ty := some y51, elem := some 5 }),
  (61, { size := 1, bytes := 24, agg := false, ty := some y61, elem := some 44 }),
  (167, { size := 3, bytes := 40, agg := true, ty := some y167, fields := [(0, 51), (1, 3), (2, 3)] })]
def look : List (TypeId × TI) → TypeId → Option TI
  | [], _ => none
  | (k, i) :: r, t => if Nat.beq t k = true then some i else look r t
theorem look_ok {P : Program} : ∀ {l : List (TypeId × TI)}, (l.all fun p => tiOk P p.1 p.2) = true → ∀ t i, look l t = some i → tiOk P t i = true
  | [], _, t, i, h => by simp [look] at h
  | (k, j) :: r, h0, t, i, h => by
    simp only [List.all_cons, Bool.and_eq_true] at h0
    simp only [look] at h
    split at h
    · rename_i hk
      simp only [Option.some.injEq] at h
      have := Nat.eq_of_beq_eq_true hk
      subst this; subst h; exact h0.1
    · exact look_ok h0.2 t i h
theorem look_eq {P : Program} : ∀ {l : List (TypeId × TI)}, (l.all fun p => !p.2.eq || eqTop P p.1 p.2.ty) = true → ∀ t i, look l t = some i → i.eq = true → ∀ ty, i.ty = some ty → EqLaw P t ty.zero
  | [], _, t, i, h => by simp [look] at h
  | (k, j) :: r, h0, t, i, h => by
    simp only [List.all_cons, Bool.and_eq_true, Bool.or_eq_true, Bool.not_eq_true'] at h0
    simp only [look] at h
    split at h
    · rename_i hk
      simp only [Option.some.injEq] at h
      have := Nat.eq_of_beq_eq_true hk
      subst this; subst h
      intro he
      exact eqLaw_of (h0.1.resolve_left (by simp [he]))
    · exact look_eq h0.2 t i h
def same : List Nat → List Nat → Bool
  | [], [] => true
  | a :: x, b :: y => Nat.beq a b && same x y
  | _, _ => false
theorem same_eq : ∀ {x y : List Nat}, same x y = true → x = y
  | [], [], _ => rfl
  | a :: x, b :: y, h => by
    simp only [same, Bool.and_eq_true] at h
    rw [Nat.eq_of_beq_eq_true h.1, same_eq h.2]
  | [], _ :: _, h => by simp [same] at h
  | _ :: _, [], h => by simp [same] at h
def fns : List (FuncId × List FuncId × Entry) → FuncId → List FuncId → Option Entry
  | [], _, _ => none
  | (k, c, e) :: r, f, fs => if (Nat.beq f k && same fs c) = true then some e else fns r f fs
theorem fns_nil (P : Program) : ∀ f fs en, fns [] f fs = some en → Contract P f en.sig en.F := fun f fs en h => by simp [fns] at h
theorem fns_cons {P : Program} {k : FuncId} {c : List FuncId} {e : Entry} {r : List (FuncId × List FuncId × Entry)} (hk : Contract P k e.sig e.F) (hr : ∀ f fs en, fns r f fs = some en → Contract P f en.sig en.F) : ∀ f fs en, fns ((k, c, e) :: r) f fs = some en → Contract P f en.sig en.F := fun f fs en h => by
  simp only [fns] at h
  split at h
  · rename_i hf
    simp only [Bool.and_eq_true] at hf
    simp only [Option.some.injEq] at h
    have := Nat.eq_of_beq_eq_true hf.1
    subst this; subst h; exact hk
  · exact hr f fs en h

theorem tab_ti : ∀ t i, look tab t = some i → tiOk Try.prog t i = true := look_ok (by kernel_rfl)
theorem tab_eq : ∀ t i, look tab t = some i → i.eq = true → ∀ ty, i.ty = some ty → EqLaw Try.prog t ty.zero := look_eq (by kernel_rfl)
theorem mixed : Try.prog.follows .mixedOrders = true := by kernel_rfl
def s_laws_big : Sig := { params := [.val false y51], res := [.val false y4] }
noncomputable def e_laws_big : Entry := ⟨s_laws_big, fun a => D.laws_big a⟩
noncomputable def v_laws_big : Env := { ti := look tab, Γ := fns [], loop := fun _ => none, cut := fun _ => none, deep := fun _ => false }
theorem c_laws_big : Contract Try.prog 29 e_laws_big.sig e_laws_big.F :=
  den_is (E := v_laws_big) ⟨tab_ti, tab_eq⟩ (fns_nil _) mixed Try.func29 (by kernel_rfl) (by kernel_rfl) (fun x => by kernel_rfl)

def s_spec_l1New : Sig := { params := [.val false y51], res := [.ptr y167] }
noncomputable def e_spec_l1New : Entry := ⟨s_spec_l1New, fun a => D.spec_l1New a⟩
noncomputable def v_spec_l1New : Env := { ti := look tab, Γ := fns [], loop := fun b => match b with | 0 => some [.slot 3 (.int .i64), .slot 4 (.int .i64)] | _ => none, cut := fun _ => none, deep := fun _ => false }
theorem c_spec_l1New : Contract Try.prog 89 e_spec_l1New.sig e_spec_l1New.F :=
  den_is (E := v_spec_l1New) ⟨tab_ti, tab_eq⟩ (fns_nil _) mixed Try.func89 (by kernel_rfl) (by kernel_rfl) (fun x => by kernel_rfl)

def s_spec_l1Byte : Sig := { params := [.ioptr y167], res := [.val false y3] }
noncomputable def e_spec_l1Byte : Entry := ⟨s_spec_l1Byte, fun a => D.spec_l1Byte a⟩
noncomputable def v_spec_l1Byte : Env := { ti := look tab, Γ := fns [], loop := fun _ => none, cut := fun _ => none, deep := fun _ => false }
theorem c_spec_l1Byte : Contract Try.prog 148 e_spec_l1Byte.sig e_spec_l1Byte.F :=
  den_is (E := v_spec_l1Byte) ⟨tab_ti, tab_eq⟩ (fns_nil _) mixed Try.func148 (by kernel_rfl) (by kernel_rfl) (fun x => by kernel_rfl)

def s_spec_l1Below : Sig := { params := [.ioptr y167, .val false y3], res := [.val false y3] }
noncomputable def e_spec_l1Below : Entry := ⟨s_spec_l1Below, fun a => D.spec_l1Below a.1 a.2⟩
noncomputable def v_spec_l1Below : Env := { ti := look tab, Γ := fns [(148, [], e_spec_l1Byte)], loop := fun _ => none, cut := fun _ => none, deep := fun _ => false }
theorem c_spec_l1Below : Contract Try.prog 91 e_spec_l1Below.sig e_spec_l1Below.F :=
  den_is (E := v_spec_l1Below) ⟨tab_ti, tab_eq⟩ (fns_cons c_spec_l1Byte (fns_nil _)) mixed Try.func91 (by kernel_rfl) (by kernel_rfl) (fun x => by kernel_rfl)

def s_spec_l4Draw : Sig := { params := [.ioptr y167], res := [.val true y29] }
noncomputable def e_spec_l4Draw : Entry := ⟨s_spec_l4Draw, fun a => D.spec_l4Draw a⟩
noncomputable def v_spec_l4Draw : Env := { ti := look tab, Γ := fns [(91, [], e_spec_l1Below)], loop := fun _ => none, cut := fun _ => none, deep := fun _ => false }
theorem c_spec_l4Draw : Contract Try.prog 176 e_spec_l4Draw.sig e_spec_l4Draw.F :=
  den_is (E := v_spec_l4Draw) ⟨tab_ti, tab_eq⟩ (fns_cons c_spec_l1Below (fns_nil _)) mixed Try.func176 (by kernel_rfl) (by kernel_rfl) (fun x => by kernel_rfl)

def s_spec_l5Body : Sig := { params := [.ioptr y167], res := [.row 3 y3 false] }
noncomputable def e_spec_l5Body : Entry := ⟨s_spec_l5Body, fun a => D.spec_l5Body a⟩
noncomputable def v_spec_l5Body : Env := { ti := look tab, Γ := fns [(91, [], e_spec_l1Below)], loop := fun b => match b with | 0 => some [.slot 3 (.own 3 y3 false), .slot 4 (.int .i64), .box 0 [.ro 5 y5, .int .i64, .int .i64]] | _ => none, cut := fun _ => none, deep := fun _ => false }
theorem c_spec_l5Body : Contract Try.prog 128 e_spec_l5Body.sig e_spec_l5Body.F :=
  den_is (E := v_spec_l5Body) ⟨tab_ti, tab_eq⟩ (fns_cons c_spec_l1Below (fns_nil _)) mixed Try.func128 (by kernel_rfl) (by kernel_rfl) (fun x => by kernel_rfl)

def s_spec_l5Draw : Sig := { params := [.ioptr y167], res := [.val false y3, .row 3 y3 false, .val false y3, .val false y3, .val false y3], rgroups := [some 5] }
noncomputable def e_spec_l5Draw : Entry := ⟨s_spec_l5Draw, fun a => D.spec_l5Draw a⟩
noncomputable def v_spec_l5Draw : Env := { ti := look tab, Γ := fns [(91, [], e_spec_l1Below), (176, [], e_spec_l4Draw), (128, [], e_spec_l5Body)], loop := fun _ => none, cut := fun _ => none, deep := fun _ => false }
theorem c_spec_l5Draw : Contract Try.prog 146 e_spec_l5Draw.sig e_spec_l5Draw.F :=
  den_is (E := v_spec_l5Draw) ⟨tab_ti, tab_eq⟩ (fns_cons c_spec_l1Below (fns_cons c_spec_l4Draw (fns_cons c_spec_l5Body (fns_nil _)))) mixed Try.func146 (by kernel_rfl) (by kernel_rfl) (fun x => by kernel_rfl)

def s_spec_l15Draw : Sig := { params := [.ioptr y167], res := [.row 44 y44 false] }
noncomputable def e_spec_l15Draw : Entry := ⟨s_spec_l15Draw, fun a => D.spec_l15Draw a⟩
noncomputable def v_spec_l15Draw : Env := { ti := look tab, Γ := fns [(91, [], e_spec_l1Below), (176, [], e_spec_l4Draw), (146, [], e_spec_l5Draw)], loop := fun b => match b with | 0 => some [.slot 3 (.own 44 y44 false), .slot 4 (.int .i64), .box 0 [.ro 5 y5, .int .i64, .int .i64]] | _ => none, cut := fun _ => none, deep := fun _ => false }
theorem c_spec_l15Draw : Contract Try.prog 154 e_spec_l15Draw.sig e_spec_l15Draw.F :=
  den_is (E := v_spec_l15Draw) ⟨tab_ti, tab_eq⟩ (fns_cons c_spec_l1Below (fns_cons c_spec_l4Draw (fns_cons c_spec_l5Draw (fns_nil _)))) mixed Try.func154 (by kernel_rfl) (by kernel_rfl) (fun x => by kernel_rfl)

def s_spec_l1Int : Sig := { params := [.ioptr y167, .val false y22], res := [.val false y3] }
noncomputable def e_spec_l1Int : Entry := ⟨s_spec_l1Int, fun a => D.spec_l1Int a.1 a.2⟩
noncomputable def v_spec_l1Int : Env := { ti := look tab, Γ := fns [(91, [], e_spec_l1Below)], loop := fun _ => none, cut := fun _ => none, deep := fun _ => false }
theorem c_spec_l1Int : Contract Try.prog 96 e_spec_l1Int.sig e_spec_l1Int.F :=
  den_is (E := v_spec_l1Int) ⟨tab_ti, tab_eq⟩ (fns_cons c_spec_l1Below (fns_nil _)) mixed Try.func96 (by kernel_rfl) (by kernel_rfl) (fun x => by kernel_rfl)

def s_spec_l4Raw : Sig := { params := [.ioptr y167], res := [.val false y3] }
noncomputable def e_spec_l4Raw : Entry := ⟨s_spec_l4Raw, fun a => D.spec_l4Raw a⟩
noncomputable def v_spec_l4Raw : Env := { ti := look tab, Γ := fns [(96, [], e_spec_l1Int)], loop := fun _ => none, cut := fun _ => none, deep := fun _ => false }
theorem c_spec_l4Raw : Contract Try.prog 177 e_spec_l4Raw.sig e_spec_l4Raw.F :=
  den_is (E := v_spec_l4Raw) ⟨tab_ti, tab_eq⟩ (fns_cons c_spec_l1Int (fns_nil _)) mixed Try.func177 (by kernel_rfl) (by kernel_rfl) (fun x => by kernel_rfl)

def s_spec_l4Any : Sig := { params := [.ioptr y167], res := [.val true y29] }
noncomputable def e_spec_l4Any : Entry := ⟨s_spec_l4Any, fun a => D.spec_l4Any a⟩
noncomputable def v_spec_l4Any : Env := { ti := look tab, Γ := fns [(176, [], e_spec_l4Draw), (91, [], e_spec_l1Below), (177, [], e_spec_l4Raw)], loop := fun _ => none, cut := fun _ => none, deep := fun _ => false }
theorem c_spec_l4Any : Contract Try.prog 147 e_spec_l4Any.sig e_spec_l4Any.F :=
  den_is (E := v_spec_l4Any) ⟨tab_ti, tab_eq⟩ (fns_cons c_spec_l4Draw (fns_cons c_spec_l1Below (fns_cons c_spec_l4Raw (fns_nil _)))) mixed Try.func147 (by kernel_rfl) (by kernel_rfl) (fun x => by kernel_rfl)

def s_spec_l5Any : Sig := { params := [.ioptr y167], res := [.val false y3, .row 3 y3 false, .val false y3, .val false y3, .val false y3], rgroups := [some 5] }
noncomputable def e_spec_l5Any : Entry := ⟨s_spec_l5Any, fun a => D.spec_l5Any a⟩
noncomputable def v_spec_l5Any : Env := { ti := look tab, Γ := fns [(146, [], e_spec_l5Draw), (91, [], e_spec_l1Below), (96, [], e_spec_l1Int), (147, [], e_spec_l4Any)], loop := fun _ => none, cut := fun _ => none, deep := fun _ => false }
theorem c_spec_l5Any : Contract Try.prog 90 e_spec_l5Any.sig e_spec_l5Any.F :=
  den_is (E := v_spec_l5Any) ⟨tab_ti, tab_eq⟩ (fns_cons c_spec_l5Draw (fns_cons c_spec_l1Below (fns_cons c_spec_l1Int (fns_cons c_spec_l4Any (fns_nil _))))) mixed Try.func90 (by kernel_rfl) (by kernel_rfl) (fun x => by kernel_rfl)

def s_spec_l15Any : Sig := { params := [.ioptr y167], res := [.row 44 y44 false] }
noncomputable def e_spec_l15Any : Entry := ⟨s_spec_l15Any, fun a => D.spec_l15Any a⟩
noncomputable def v_spec_l15Any : Env := { ti := look tab, Γ := fns [(154, [], e_spec_l15Draw), (91, [], e_spec_l1Below), (147, [], e_spec_l4Any), (96, [], e_spec_l1Int), (90, [], e_spec_l5Any)], loop := fun _ => none, cut := fun _ => none, deep := fun _ => false }
theorem c_spec_l15Any : Contract Try.prog 103 e_spec_l15Any.sig e_spec_l15Any.F :=
  den_is (E := v_spec_l15Any) ⟨tab_ti, tab_eq⟩ (fns_cons c_spec_l15Draw (fns_cons c_spec_l1Below (fns_cons c_spec_l4Any (fns_cons c_spec_l1Int (fns_cons c_spec_l5Any (fns_nil _)))))) mixed Try.func103 (by kernel_rfl) (by kernel_rfl) (fun x => by kernel_rfl)

def s_spec_l25Draw : Sig := { params := [.ioptr y167], res := [.val true y67] }
noncomputable def e_spec_l25Draw : Entry := ⟨s_spec_l25Draw, fun a => D.spec_l25Draw a⟩
noncomputable def v_spec_l25Draw : Env := { ti := look tab, Γ := fns [(91, [], e_spec_l1Below)], loop := fun _ => none, cut := fun _ => none, deep := fun _ => false }
theorem c_spec_l25Draw : Contract Try.prog 178 e_spec_l25Draw.sig e_spec_l25Draw.F :=
  den_is (E := v_spec_l25Draw) ⟨tab_ti, tab_eq⟩ (fns_cons c_spec_l1Below (fns_nil _)) mixed Try.func178 (by kernel_rfl) (by kernel_rfl) (fun x => by kernel_rfl)

def s_spec_l25Any : Sig := { params := [.ioptr y167], res := [.val true y67] }
noncomputable def e_spec_l25Any : Entry := ⟨s_spec_l25Any, fun a => D.spec_l25Any a⟩
noncomputable def v_spec_l25Any : Env := { ti := look tab, Γ := fns [(178, [], e_spec_l25Draw), (91, [], e_spec_l1Below), (177, [], e_spec_l4Raw), (96, [], e_spec_l1Int)], loop := fun _ => none, cut := fun _ => none, deep := fun _ => false }
theorem c_spec_l25Any : Contract Try.prog 155 e_spec_l25Any.sig e_spec_l25Any.F :=
  den_is (E := v_spec_l25Any) ⟨tab_ti, tab_eq⟩ (fns_cons c_spec_l25Draw (fns_cons c_spec_l1Below (fns_cons c_spec_l4Raw (fns_cons c_spec_l1Int (fns_nil _))))) mixed Try.func155 (by kernel_rfl) (by kernel_rfl) (fun x => by kernel_rfl)

def s_spec_l25List : Sig := { params := [.ioptr y167], res := [.row 67 y67 false] }
noncomputable def e_spec_l25List : Entry := ⟨s_spec_l25List, fun a => D.spec_l25List a⟩
noncomputable def v_spec_l25List : Env := { ti := look tab, Γ := fns [(91, [], e_spec_l1Below), (155, [], e_spec_l25Any)], loop := fun b => match b with | 0 => some [.slot 3 (.own 67 y67 false), .slot 4 (.int .i64), .box 0 [.ro 5 y5, .int .i64, .int .i64]] | _ => none, cut := fun _ => none, deep := fun _ => false }
theorem c_spec_l25List : Contract Try.prog 104 e_spec_l25List.sig e_spec_l25List.F :=
  den_is (E := v_spec_l25List) ⟨tab_ti, tab_eq⟩ (fns_cons c_spec_l1Below (fns_cons c_spec_l25Any (fns_nil _))) mixed Try.func104 (by kernel_rfl) (by kernel_rfl) (fun x => by kernel_rfl)

def s_spec_DrawVisibleAt : Sig := { params := [.val false y51], res := [.row 44 y44 false, .row 67 y67 false, .val false y3] }
noncomputable def e_spec_DrawVisibleAt : Entry := ⟨s_spec_DrawVisibleAt, fun a => D.spec_DrawVisibleAt a⟩
noncomputable def v_spec_DrawVisibleAt : Env := { ti := look tab, Γ := fns [(89, [], e_spec_l1New), (103, [], e_spec_l15Any), (104, [], e_spec_l25List), (91, [], e_spec_l1Below)], loop := fun _ => none, cut := fun _ => none, deep := fun _ => false }
theorem c_spec_DrawVisibleAt : Contract Try.prog 38 e_spec_DrawVisibleAt.sig e_spec_DrawVisibleAt.F :=
  den_is (E := v_spec_DrawVisibleAt) ⟨tab_ti, tab_eq⟩ (fns_cons c_spec_l1New (fns_cons c_spec_l15Any (fns_cons c_spec_l25List (fns_cons c_spec_l1Below (fns_nil _))))) mixed Try.func38 (by kernel_rfl) (by kernel_rfl) (fun x => by kernel_rfl)

def s_impl_InRange : Sig := { params := [.val false y3, .val false y3, .val false y3], res := [.val false y4] }
noncomputable def e_impl_InRange : Entry := ⟨s_impl_InRange, fun a => D.impl_InRange a.1 a.2.1 a.2.2⟩
noncomputable def v_impl_InRange : Env := { ti := look tab, Γ := fns [], loop := fun _ => none, cut := fun _ => none, deep := fun _ => false }
theorem c_impl_InRange : Contract Try.prog 122 e_impl_InRange.sig e_impl_InRange.F :=
  den_is (E := v_impl_InRange) ⟨tab_ti, tab_eq⟩ (fns_nil _) mixed Try.func122 (by kernel_rfl) (by kernel_rfl) (fun x => by kernel_rfl)

def s_impl_IsExclusion : Sig := { params := [.val true y67], res := [.val false y4] }
noncomputable def e_impl_IsExclusion : Entry := ⟨s_impl_IsExclusion, fun a => D.impl_IsExclusion a⟩
noncomputable def v_impl_IsExclusion : Env := { ti := look tab, Γ := fns [(122, [], e_impl_InRange)], loop := fun _ => none, cut := fun _ => none, deep := fun _ => false }
theorem c_impl_IsExclusion : Contract Try.prog 145 e_impl_IsExclusion.sig e_impl_IsExclusion.F :=
  den_is (E := v_impl_IsExclusion) ⟨tab_ti, tab_eq⟩ (fns_cons c_impl_InRange (fns_nil _)) mixed Try.func145 (by kernel_rfl) (by kernel_rfl) (fun x => by kernel_rfl)

def s_impl_Exclusion_hides : Sig := { params := [.val true y67, .val true y44], res := [.val false y4] }
noncomputable def e_impl_Exclusion_hides : Entry := ⟨s_impl_Exclusion_hides, fun a => D.impl_Exclusion_hides a.1 a.2⟩
noncomputable def v_impl_Exclusion_hides : Env := { ti := look tab, Γ := fns [(145, [], e_impl_IsExclusion), (122, [], e_impl_InRange)], loop := fun _ => none, cut := fun _ => none, deep := fun _ => false }
theorem c_impl_Exclusion_hides : Contract Try.prog 87 e_impl_Exclusion_hides.sig e_impl_Exclusion_hides.F :=
  den_is (E := v_impl_Exclusion_hides) ⟨tab_ti, tab_eq⟩ (fns_cons c_impl_IsExclusion (fns_cons c_impl_InRange (fns_nil _))) mixed Try.func87 (by kernel_rfl) (by kernel_rfl) (fun x => by kernel_rfl)

def s_impl_IsHiddenBy : Sig := { params := [.val true y67, .val true y44, .val false y3], res := [.val false y4] }
noncomputable def e_impl_IsHiddenBy : Entry := ⟨s_impl_IsHiddenBy, fun a => D.impl_IsHiddenBy a.1 a.2.1 a.2.2⟩
noncomputable def v_impl_IsHiddenBy : Env := { ti := look tab, Γ := fns [(87, [], e_impl_Exclusion_hides)], loop := fun _ => none, cut := fun _ => none, deep := fun _ => false }
theorem c_impl_IsHiddenBy : Contract Try.prog 40 e_impl_IsHiddenBy.sig e_impl_IsHiddenBy.F :=
  den_is (E := v_impl_IsHiddenBy) ⟨tab_ti, tab_eq⟩ (fns_cons c_impl_Exclusion_hides (fns_nil _)) mixed Try.func40 (by kernel_rfl) (by kernel_rfl) (fun x => by kernel_rfl)

def s_impl_VisibleAt_1 : Sig := { params := [.val true y67, .cptr y44, .cptr y3], res := [.val false y4] }
noncomputable def e_impl_VisibleAt_1 : Entry := ⟨s_impl_VisibleAt_1, fun a => D.impl_VisibleAt_1 a.1 a.2.1 a.2.2⟩
noncomputable def v_impl_VisibleAt_1 : Env := { ti := look tab, Γ := fns [(40, [], e_impl_IsHiddenBy)], loop := fun _ => none, cut := fun _ => none, deep := fun _ => false }
theorem c_impl_VisibleAt_1 : Contract Try.prog 106 e_impl_VisibleAt_1.sig e_impl_VisibleAt_1.F :=
  den_is (E := v_impl_VisibleAt_1) ⟨tab_ti, tab_eq⟩ (fns_cons c_impl_IsHiddenBy (fns_nil _)) mixed Try.func106 (by kernel_rfl) (by kernel_rfl) (fun x => by kernel_rfl)

def s_slices_IndexFunc_Exclusion_impl_VisibleAt_1 : Sig := { params := [.val false y46, .fn 106 [y44, y3]], res := [.val false y3] }
noncomputable def e_slices_IndexFunc_Exclusion_impl_VisibleAt_1 : Entry := ⟨s_slices_IndexFunc_Exclusion_impl_VisibleAt_1, fun a => D.slices_IndexFunc_Exclusion_impl_VisibleAt_1 a.1 a.2⟩
noncomputable def v_slices_IndexFunc_Exclusion_impl_VisibleAt_1 : Env := { ti := look tab, Γ := fns [(106, [], e_impl_VisibleAt_1)], loop := fun b => match b with | 0 => some [.slot 8 (.int .i64)] | _ => none, cut := fun _ => none, deep := fun _ => false }
theorem c_slices_IndexFunc_Exclusion_impl_VisibleAt_1 : Contract Try.prog 156 e_slices_IndexFunc_Exclusion_impl_VisibleAt_1.sig e_slices_IndexFunc_Exclusion_impl_VisibleAt_1.F :=
  den_is (E := v_slices_IndexFunc_Exclusion_impl_VisibleAt_1) ⟨tab_ti, tab_eq⟩ (fns_cons c_impl_VisibleAt_1 (fns_nil _)) mixed Try.func156 (by kernel_rfl) (by kernel_rfl) (fun x => by kernel_rfl)

def s_slices_ContainsFunc_Exclusion_impl_VisibleAt_1 : Sig := { params := [.val false y46, .fn 106 [y44, y3]], res := [.val false y4] }
noncomputable def e_slices_ContainsFunc_Exclusion_impl_VisibleAt_1 : Entry := ⟨s_slices_ContainsFunc_Exclusion_impl_VisibleAt_1, fun a => D.slices_ContainsFunc_Exclusion_impl_VisibleAt_1 a.1 a.2⟩
noncomputable def v_slices_ContainsFunc_Exclusion_impl_VisibleAt_1 : Env := { ti := look tab, Γ := fns [(156, [106], e_slices_IndexFunc_Exclusion_impl_VisibleAt_1)], loop := fun _ => none, cut := fun _ => none, deep := fun _ => false }
theorem c_slices_ContainsFunc_Exclusion_impl_VisibleAt_1 : Contract Try.prog 105 e_slices_ContainsFunc_Exclusion_impl_VisibleAt_1.sig e_slices_ContainsFunc_Exclusion_impl_VisibleAt_1.F :=
  den_is (E := v_slices_ContainsFunc_Exclusion_impl_VisibleAt_1) ⟨tab_ti, tab_eq⟩ (fns_cons c_slices_IndexFunc_Exclusion_impl_VisibleAt_1 (fns_nil _)) mixed Try.func105 (by kernel_rfl) (by kernel_rfl) (fun x => by kernel_rfl)

def s_slices_Clone_int : Sig := { params := [.val false y22], res := [.row 3 y3 false] }
noncomputable def e_slices_Clone_int : Entry := ⟨s_slices_Clone_int, fun a => D.slices_Clone_int a⟩
noncomputable def v_slices_Clone_int : Env := { ti := look tab, Γ := fns [], loop := fun _ => none, cut := fun _ => none, deep := fun _ => false }
theorem c_slices_Clone_int : Contract Try.prog 179 e_slices_Clone_int.sig e_slices_Clone_int.F :=
  den_is (E := v_slices_Clone_int) ⟨tab_ti, tab_eq⟩ (fns_nil _) mixed Try.func179 (by kernel_rfl) (by kernel_rfl) (fun x => by kernel_rfl)

def s_impl_copyResource : Sig := { params := [.val true y31], res := [.val false y3, .row 3 y3 false, .val false y3, .val false y3, .val false y3], rgroups := [some 5] }
noncomputable def e_impl_copyResource : Entry := ⟨s_impl_copyResource, fun a => D.impl_copyResource a⟩
noncomputable def v_impl_copyResource : Env := { ti := look tab, Γ := fns [(179, [], e_slices_Clone_int)], loop := fun _ => none, cut := fun _ => none, deep := fun _ => false }
theorem c_impl_copyResource : Contract Try.prog 157 e_impl_copyResource.sig e_impl_copyResource.F :=
  den_is (E := v_impl_copyResource) ⟨tab_ti, tab_eq⟩ (fns_cons c_slices_Clone_int (fns_nil _)) mixed Try.func157 (by kernel_rfl) (by kernel_rfl) (fun x => by kernel_rfl)

def s_impl_copyCaptures : Sig := { params := [.val false y61], res := [.row 44 y44 false] }
noncomputable def e_impl_copyCaptures : Entry := ⟨s_impl_copyCaptures, fun a => D.impl_copyCaptures a⟩
noncomputable def v_impl_copyCaptures : Env := { ti := look tab, Γ := fns [(157, [], e_impl_copyResource)], loop := fun b => match b with | 0 => some [.slot 3 (.own 44 y44 false), .slot 8 (.int .i64)] | _ => none, cut := fun _ => none, deep := fun _ => false }
theorem c_impl_copyCaptures : Contract Try.prog 107 e_impl_copyCaptures.sig e_impl_copyCaptures.F :=
  den_is (E := v_impl_copyCaptures) ⟨tab_ti, tab_eq⟩ (fns_cons c_impl_copyResource (fns_nil _)) mixed Try.func107 (by kernel_rfl) (by kernel_rfl) (fun x => by kernel_rfl)

def s_impl_VisibleAt : Sig := { params := [.val false y61, .val false y46, .val false y3], res := [.row 44 y44 false] }
noncomputable def e_impl_VisibleAt : Entry := ⟨s_impl_VisibleAt, fun a => D.impl_VisibleAt a.1 a.2.1 a.2.2⟩
noncomputable def v_impl_VisibleAt : Env := { ti := look tab, Γ := fns [(105, [106], e_slices_ContainsFunc_Exclusion_impl_VisibleAt_1), (107, [], e_impl_copyCaptures)], loop := fun b => match b with | 0 => some [.slot 7 (.own 44 y44 false), .slot 12 (.int .i64)] | _ => none, cut := fun _ => none, deep := fun _ => false }
theorem c_impl_VisibleAt : Contract Try.prog 39 e_impl_VisibleAt.sig e_impl_VisibleAt.F :=
  den_is (E := v_impl_VisibleAt) ⟨tab_ti, tab_eq⟩ (fns_cons c_slices_ContainsFunc_Exclusion_impl_VisibleAt_1 (fns_cons c_impl_copyCaptures (fns_nil _))) mixed Try.func39 (by kernel_rfl) (by kernel_rfl) (fun x => by kernel_rfl)

def s_impl_FirstHidden : Sig := { params := [.val true y44, .val false y46], res := [.val false y3] }
noncomputable def e_impl_FirstHidden : Entry := ⟨s_impl_FirstHidden, fun a => D.impl_FirstHidden a.1 a.2⟩
noncomputable def v_impl_FirstHidden : Env := { ti := look tab, Γ := fns [(87, [], e_impl_Exclusion_hides)], loop := fun b => match b with | 0 => some [.slot 5 (.int .i64), .slot 10 (.int .i64)] | _ => none, cut := fun _ => none, deep := fun _ => false }
theorem c_impl_FirstHidden : Contract Try.prog 26 e_impl_FirstHidden.sig e_impl_FirstHidden.F :=
  den_is (E := v_impl_FirstHidden) ⟨tab_ti, tab_eq⟩ (fns_cons c_impl_Exclusion_hides (fns_nil _)) mixed Try.func26 (by kernel_rfl) (by kernel_rfl) (fun x => by kernel_rfl)

def s_slices_Equal_int : Sig := { params := [.val false y22, .val false y22], res := [.val false y4] }
noncomputable def e_slices_Equal_int : Entry := ⟨s_slices_Equal_int, fun a => D.slices_Equal_int a.1 a.2⟩
noncomputable def v_slices_Equal_int : Env := { ti := look tab, Γ := fns [], loop := fun b => match b with | 0 => some [.slot 13 (.int .i64)] | _ => none, cut := fun _ => none, deep := fun _ => false }
theorem c_slices_Equal_int : Contract Try.prog 180 e_slices_Equal_int.sig e_slices_Equal_int.F :=
  den_is (E := v_slices_Equal_int) ⟨tab_ti, tab_eq⟩ (fns_nil _) mixed Try.func180 (by kernel_rfl) (by kernel_rfl) (fun x => by kernel_rfl)

def s_impl_EqualResources : Sig := { params := [.val true y31, .val true y31], res := [.val false y4] }
noncomputable def e_impl_EqualResources : Entry := ⟨s_impl_EqualResources, fun a => D.impl_EqualResources a.1 a.2⟩
noncomputable def v_impl_EqualResources : Env := { ti := look tab, Γ := fns [(180, [], e_slices_Equal_int)], loop := fun _ => none, cut := fun _ => none, deep := fun _ => false }
theorem c_impl_EqualResources : Contract Try.prog 158 e_impl_EqualResources.sig e_impl_EqualResources.F :=
  den_is (E := v_impl_EqualResources) ⟨tab_ti, tab_eq⟩ (fns_cons c_slices_Equal_int (fns_nil _)) mixed Try.func158 (by kernel_rfl) (by kernel_rfl) (fun x => by kernel_rfl)

def s_impl_sameCapture : Sig := { params := [.val true y44, .val true y44], res := [.val false y4] }
noncomputable def e_impl_sameCapture : Entry := ⟨s_impl_sameCapture, fun a => D.impl_sameCapture a.1 a.2⟩
noncomputable def v_impl_sameCapture : Env := { ti := look tab, Γ := fns [(158, [], e_impl_EqualResources)], loop := fun _ => none, cut := fun _ => none, deep := fun _ => false }
theorem c_impl_sameCapture : Contract Try.prog 109 e_impl_sameCapture.sig e_impl_sameCapture.F :=
  den_is (E := v_impl_sameCapture) ⟨tab_ti, tab_eq⟩ (fns_cons c_impl_EqualResources (fns_nil _)) mixed Try.func109 (by kernel_rfl) (by kernel_rfl) (fun x => by kernel_rfl)

def s_slices_EqualFunc_Capture_impl_sameCapture : Sig := { params := [.val false y61, .val false y61, .fn 109 []], res := [.val false y4] }
noncomputable def e_slices_EqualFunc_Capture_impl_sameCapture : Entry := ⟨s_slices_EqualFunc_Capture_impl_sameCapture, fun a => D.slices_EqualFunc_Capture_impl_sameCapture a.1 a.2.1⟩
noncomputable def v_slices_EqualFunc_Capture_impl_sameCapture : Env := { ti := look tab, Γ := fns [(109, [], e_impl_sameCapture)], loop := fun b => match b with | 0 => some [.slot 17 (.int .i64)] | _ => none, cut := fun _ => none, deep := fun _ => false }
theorem c_slices_EqualFunc_Capture_impl_sameCapture : Contract Try.prog 108 e_slices_EqualFunc_Capture_impl_sameCapture.sig e_slices_EqualFunc_Capture_impl_sameCapture.F :=
  den_is (E := v_slices_EqualFunc_Capture_impl_sameCapture) ⟨tab_ti, tab_eq⟩ (fns_cons c_impl_sameCapture (fns_nil _)) mixed Try.func108 (by kernel_rfl) (by kernel_rfl) (fun x => by kernel_rfl)

def s_impl_EqualCaptures : Sig := { params := [.val false y61, .val false y61], res := [.val false y4] }
noncomputable def e_impl_EqualCaptures : Entry := ⟨s_impl_EqualCaptures, fun a => D.impl_EqualCaptures a.1 a.2⟩
noncomputable def v_impl_EqualCaptures : Env := { ti := look tab, Γ := fns [(108, [109], e_slices_EqualFunc_Capture_impl_sameCapture)], loop := fun _ => none, cut := fun _ => none, deep := fun _ => false }
theorem c_impl_EqualCaptures : Contract Try.prog 41 e_impl_EqualCaptures.sig e_impl_EqualCaptures.F :=
  den_is (E := v_impl_EqualCaptures) ⟨tab_ti, tab_eq⟩ (fns_cons c_slices_EqualFunc_Capture_impl_sameCapture (fns_nil _)) mixed Try.func41 (by kernel_rfl) (by kernel_rfl) (fun x => by kernel_rfl)

def s_impl_HiddenCount : Sig := { params := [.val false y61, .val false y46, .val false y3], res := [.val false y3] }
noncomputable def e_impl_HiddenCount : Entry := ⟨s_impl_HiddenCount, fun a => D.impl_HiddenCount a.1 a.2.1 a.2.2⟩
noncomputable def v_impl_HiddenCount : Env := { ti := look tab, Γ := fns [(39, [], e_impl_VisibleAt)], loop := fun _ => none, cut := fun _ => none, deep := fun _ => false }
theorem c_impl_HiddenCount : Contract Try.prog 42 e_impl_HiddenCount.sig e_impl_HiddenCount.F :=
  den_is (E := v_impl_HiddenCount) ⟨tab_ti, tab_eq⟩ (fns_cons c_impl_VisibleAt (fns_nil _)) mixed Try.func42 (by kernel_rfl) (by kernel_rfl) (fun x => by kernel_rfl)

def s_laws_FnExcluded : Sig := { params := [.val false y51], res := [.val false y4] }
noncomputable def e_laws_FnExcluded : Entry := ⟨s_laws_FnExcluded, fun a => D.laws_FnExcluded a⟩
noncomputable def v_laws_FnExcluded : Env := { ti := look tab, Γ := fns [(29, [], e_laws_big), (38, [], e_spec_DrawVisibleAt), (39, [], e_impl_VisibleAt), (40, [], e_impl_IsHiddenBy), (26, [], e_impl_FirstHidden), (41, [], e_impl_EqualCaptures), (42, [], e_impl_HiddenCount)], loop := fun b => match b with | 0 => some [.slot 7 (.int .i64), .slot 8 (.int .i64)] | 2 => some [.slot 9 (.bool), .slot 10 (.int .i64)] | _ => none, cut := fun _ => none, deep := fun _ => false }
theorem c_laws_FnExcluded : Contract Try.prog 6 e_laws_FnExcluded.sig e_laws_FnExcluded.F :=
  den_is (E := v_laws_FnExcluded) ⟨tab_ti, tab_eq⟩ (fns_cons c_laws_big (fns_cons c_spec_DrawVisibleAt (fns_cons c_impl_VisibleAt (fns_cons c_impl_IsHiddenBy (fns_cons c_impl_FirstHidden (fns_cons c_impl_EqualCaptures (fns_cons c_impl_HiddenCount (fns_nil _)))))))) mixed Try.func6 (by kernel_rfl) (by kernel_rfl) (fun x => by kernel_rfl)

theorem law_true (a : Tup (s_laws_FnExcluded.params.map PTy.den)) (hok : argsOk Try.prog s_laws_FnExcluded.params a) : D.laws_FnExcluded a = some true := D.FnExcluded_true a (Ty.ok_bd (P := Try.prog) (t := y51) (by kernel_rfl) hok.1)
theorem lifted (os : Os) (started : os.Started) (H : Type) (enc : TypeId × Value → H) :
    ReturnsInHanded {} Try.checked os 6 .any (Rows.fnExcludedSpec.pre6 enc Try.prog Try.f6 Rows.fnExcludedRow.domain false) (Rows.fnExcludedSpec.post enc Try.prog Try.f6 false true false false) := by
  refine returnsInHanded_of_change_sized (C := Try.checked) (by kernel_rfl) started (by kernel_rfl) Try.func6
    (ChangeSpec.witness6 (enc := enc) (C := Try.checked) false ⟨#[], #[.slice none 0 0], []⟩ 8 (by kernel_rfl) (by kernel_rfl) (by kernel_rfl) (by kernel_rfl)) ?_
  intro W base args ds gs before hval hW hcnd hsz _
  exact law_row (C := Try.checked) rfl c_laws_FnExcluded (N := 8) (by kernel_rfl) (tb := 4) (by kernel_rfl) (by kernel_rfl) (by kernel_rfl) (by kernel_rfl) rfl
    (fun ds h => by
      have h : ds.length = 1 := h
      match ds, h with
      | [d0], _ => rfl)
    bulky_sizeOf (small := fun _ => True) (fun a ds hok _ _ => ⟨_, law_true a hok, rfl⟩) hval hW hsz trivial

theorem over : Rows.fnExcludedRow.holds Try.pinned (OpenSpec.ofChange Rows.fnExcludedSpec) :=
  OpenClaim.holds_of_wide 6 Try.f6 rfl rfl rfl rfl rfl rfl rfl ⟨rfl, rfl, rfl, rfl, rfl⟩ rfl rfl rfl rfl rfl (by kernel_rfl) Try.func6 (by kernel_rfl)
    (of_decide_eq_true (by kernel_rfl)) (by unfold Func.isWrapper; first | (rw [if_pos (by decide +kernel)]; kernel_rfl) | (rw [if_neg (by decide +kernel)]; exact ⟨rfl, rfl⟩))
    (fun os started H enc _ => lifted os started H enc)
end Go.Proofs.Ytomfcmpdjfdnhaa.SxFnExcluded
namespace Go.Proofs.Ytomfcmpdjfdnhaa
theorem fnExcluded_holds : Rows.FnExcludedSaid := SxFnExcluded.over
end Go.Proofs.Ytomfcmpdjfdnhaa
