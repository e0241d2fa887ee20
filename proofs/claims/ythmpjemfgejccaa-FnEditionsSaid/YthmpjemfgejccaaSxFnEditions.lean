/- FnEditions returns true for every input, and each input reads as it did. No condition. -/
import Derived.Test.YthmpjemfgejccaaRows
import Derived.Test.YthmpjemfgejccaaPuFnEditions
import Derived.WalkKit
import Derived.ProofKit
import Derived.ShutString
import Derived.SizedLaws
set_option linter.unusedVariables false
set_option maxRecDepth 100000
set_option maxHeartbeats 4000000
namespace Go.Proofs.Ythmpjemfgejccaa.SxFnEditions
open Go Go.Sh Go.RowKit
def y3 : Ty := .int .i64
def y4 : Ty := .bool
def y5 : Ty := .int .u8
def y24 : Ty := .slice 3 y3
def y93 : Ty := .pair y3 (.pair y3 y3)
def y137 : Ty := .pair y3 (.pair y24 y93)
def y139 : Ty := .pair y93 (.pair y3 y137)
def y58 : Ty := .slice 139 y139
def y73 : Ty := .slice 93 y93
def y75 : Ty := .pair y58 (.pair y3 (.pair y3 y73))
def y111 : Ty := .slice 58 y58
def y131 : Ty := .slice 5 y5
def y251 : Ty := .pair y131 (.pair y3 y3)
def tab : List (TypeId × TI) := [(3, { size := 1, bytes := 8, agg := false, ty := some y3 }),
  (4, { size := 1, bytes := 1, agg := false, ty := some y4 }),
  (5, { size := 1, bytes := 1, agg := false, ty := some y5 }),
  (24, { size := 1, bytes := 24, agg := false, ty := some y24, elem := some 3 }),
  (93, { size := 3, bytes := 24, agg := true, ty := some y93, fields := [(0, 3), (1, 3), (2, 3)], eq := true }),
  (137, { size := 5, bytes := 56, agg := true, ty := some y137, fields := [(0, 3), (1, 24), (2, 93)] }),
  (139, { size := 9, bytes := 88, agg := true, ty := some y139, fields := [(0, 93), (3, 3), (4, 137)] }),
  (58, { size := 1, bytes := 24, agg := false, ty := some y58, elem := some 139 }),
  (73, { size := 1, bytes := 24, agg := false, ty := some y73, elem := some 93 }),
  (75, { size := 4, bytes := 64, agg := true, ty := some y75, fields := [(0, 58), (1, 3), (2, 3), (3, 73)] }),
  (111, { size := 1, bytes := 24, agg := false, ty := some y111, elem := some 58 }),
  (131, { size := 1, bytes := 24, agg := false, ty := some y131, elem := some 5 }),
  (251, { size := 3, bytes := 40, agg := true, ty := some y251, fields := [(0, 131), (1, 3), (2, 3)] })]
def look : List (TypeId × TI) → TypeId → Option TI
  | [], _ => none
  | (k, i) :: r, t => if Nat.beq t k = true then some i else look r t
theorem look_ok {P : Program} : ∀ {l : List (TypeId × TI)}, (l.all fun p => tiOk P p.1 p.2) = true → ∀ t i, look l t = some i → tiOk P t i = true
  | [], _, t, i, h => by simp [look] at h
  | (k, j) :: r, h0, t, i, h => by
    simp only [List.all_cons, Bool.and_eq_true] at h0
    simp only [look] at h
    split at h
    · rename_i hk
      simp only [Option.some.injEq] at h
      have := Nat.eq_of_beq_eq_true hk
      subst this; subst h; exact h0.1
    · exact look_ok h0.2 t i h
theorem look_eq {P : Program} : ∀ {l : List (TypeId × TI)}, (l.all fun p => !p.2.eq || eqTop P p.1 p.2.ty) = true → ∀ t i, look l t = some i → i.eq = true → ∀ ty, i.ty = some ty → EqLaw P t ty.zero
  | [], _, t, i, h => by simp [look] at h
  | (k, j) :: r, h0, t, i, h => by
    simp only [List.all_cons, Bool.and_eq_true, Bool.or_eq_true, Bool.not_eq_true'] at h0
    simp only [look] at h
    split at h
    · rename_i hk
      simp only [Option.some.injEq] at h
      have := Nat.eq_of_beq_eq_true hk
      subst this; subst h
      intro he
      exact eqLaw_of (h0.1.resolve_left (by simp [he]))
    · exact look_eq h0.2 t i h
def same : List Nat → List Nat → Bool
  | [], [] => true
  | a :: x, b :: y => Nat.beq a b && same x y
  | _, _ => false
theorem same_eq : ∀ {x y : List Nat}, same x y = true → x = y
  | [], [], _ => rfl
  | a :: x, b :: y, h => by
    simp only [same, Bool.and_eq_true] at h
    rw [Nat.eq_of_beq_eq_true h.1, same_eq h.2]
  | [], _ :: _, h => by simp [same] at h
  | _ :: _, [], h => by simp [same] at h
def fns : List (FuncId × List FuncId × Entry) → FuncId → List FuncId → Option Entry
  | [], _, _ => none
  | (k, c, e) :: r, f, fs => if (Nat.beq f k && same fs c) = true then some e else fns r f fs
theorem fns_nil (P : Program) : ∀ f fs en, fns [] f fs = some en → Contract P f en.sig en.F := fun f fs en h => by simp [fns] at h
theorem fns_cons {P : Program} {k : FuncId} {c : List FuncId} {e : Entry} {r : List (FuncId × List FuncId × Entry)} (hk : Contract P k e.sig e.F) (hr : ∀ f fs en, fns r f fs = some en → Contract P f en.sig en.F) : ∀ f fs en, fns ((k, c, e) :: r) f fs = some en → Contract P f en.sig en.F := fun f fs en h => by
  simp only [fns] at h
  split at h
  · rename_i hf
    simp only [Bool.and_eq_true] at hf
    simp only [Option.some.injEq] at h
    have := Nat.eq_of_beq_eq_true hf.1
    subst this; subst h; exact hk
  · exact hr f fs en h

theorem tab_ti : ∀ t i, look tab t = some i → tiOk Try.prog t i = true := look_ok (by kernel_rfl)
theorem tab_eq : ∀ t i, look tab t = some i → i.eq = true → ∀ ty, i.ty = some ty → EqLaw Try.prog t ty.zero := look_eq (by kernel_rfl)
theorem mixed : Try.prog.follows .mixedOrders = true := by kernel_rfl
def s_laws_big : Sig := { params := [.val false y131], res := [.val false y4] }
noncomputable def e_laws_big : Entry := ⟨s_laws_big, fun a => D.laws_big a⟩
noncomputable def v_laws_big : Env := { ti := look tab, Γ := fns [], loop := fun _ => none, cut := fun _ => none, deep := fun _ => false }
theorem c_laws_big : Contract Try.prog 90 e_laws_big.sig e_laws_big.F :=
  den_is (E := v_laws_big) ⟨tab_ti, tab_eq⟩ (fns_nil _) mixed Try.func90 (by kernel_rfl) (by kernel_rfl) (fun x => by kernel_rfl)

def s_spec_l1New : Sig := { params := [.val false y131], res := [.ptr y251] }
noncomputable def e_spec_l1New : Entry := ⟨s_spec_l1New, fun a => D.spec_l1New a⟩
noncomputable def v_spec_l1New : Env := { ti := look tab, Γ := fns [], loop := fun b => match b with | 0 => some [.slot 3 (.int .i64), .slot 4 (.int .i64)] | _ => none, cut := fun _ => none, deep := fun _ => false }
theorem c_spec_l1New : Contract Try.prog 168 e_spec_l1New.sig e_spec_l1New.F :=
  den_is (E := v_spec_l1New) ⟨tab_ti, tab_eq⟩ (fns_nil _) mixed Try.func168 (by kernel_rfl) (by kernel_rfl) (fun x => by kernel_rfl)

def s_spec_l1Byte : Sig := { params := [.ioptr y251], res := [.val false y3] }
noncomputable def e_spec_l1Byte : Entry := ⟨s_spec_l1Byte, fun a => D.spec_l1Byte a⟩
noncomputable def v_spec_l1Byte : Env := { ti := look tab, Γ := fns [], loop := fun _ => none, cut := fun _ => none, deep := fun _ => false }
theorem c_spec_l1Byte : Contract Try.prog 240 e_spec_l1Byte.sig e_spec_l1Byte.F :=
  den_is (E := v_spec_l1Byte) ⟨tab_ti, tab_eq⟩ (fns_nil _) mixed Try.func240 (by kernel_rfl) (by kernel_rfl) (fun x => by kernel_rfl)

def s_spec_l1Below : Sig := { params := [.ioptr y251, .val false y3], res := [.val false y3] }
noncomputable def e_spec_l1Below : Entry := ⟨s_spec_l1Below, fun a => D.spec_l1Below a.1 a.2⟩
noncomputable def v_spec_l1Below : Env := { ti := look tab, Γ := fns [(240, [], e_spec_l1Byte)], loop := fun _ => none, cut := fun _ => none, deep := fun _ => false }
theorem c_spec_l1Below : Contract Try.prog 221 e_spec_l1Below.sig e_spec_l1Below.F :=
  den_is (E := v_spec_l1Below) ⟨tab_ti, tab_eq⟩ (fns_cons c_spec_l1Byte (fns_nil _)) mixed Try.func221 (by kernel_rfl) (by kernel_rfl) (fun x => by kernel_rfl)

def s_spec_l4Draw : Sig := { params := [.ioptr y251], res := [.val true y93] }
noncomputable def e_spec_l4Draw : Entry := ⟨s_spec_l4Draw, fun a => D.spec_l4Draw a⟩
noncomputable def v_spec_l4Draw : Env := { ti := look tab, Γ := fns [(221, [], e_spec_l1Below)], loop := fun _ => none, cut := fun _ => none, deep := fun _ => false }
theorem c_spec_l4Draw : Contract Try.prog 223 e_spec_l4Draw.sig e_spec_l4Draw.F :=
  den_is (E := v_spec_l4Draw) ⟨tab_ti, tab_eq⟩ (fns_cons c_spec_l1Below (fns_nil _)) mixed Try.func223 (by kernel_rfl) (by kernel_rfl) (fun x => by kernel_rfl)

def s_spec_l5Body : Sig := { params := [.ioptr y251], res := [.row 3 y3 false] }
noncomputable def e_spec_l5Body : Entry := ⟨s_spec_l5Body, fun a => D.spec_l5Body a⟩
noncomputable def v_spec_l5Body : Env := { ti := look tab, Γ := fns [(221, [], e_spec_l1Below)], loop := fun b => match b with | 0 => some [.slot 3 (.own 3 y3 false), .slot 4 (.int .i64), .box 0 [.ro 5 y5, .int .i64, .int .i64]] | _ => none, cut := fun _ => none, deep := fun _ => false }
theorem c_spec_l5Body : Contract Try.prog 246 e_spec_l5Body.sig e_spec_l5Body.F :=
  den_is (E := v_spec_l5Body) ⟨tab_ti, tab_eq⟩ (fns_cons c_spec_l1Below (fns_nil _)) mixed Try.func246 (by kernel_rfl) (by kernel_rfl) (fun x => by kernel_rfl)

def s_spec_l5Draw : Sig := { params := [.ioptr y251], res := [.val false y3, .row 3 y3 false, .val false y3, .val false y3, .val false y3], rgroups := [some 5] }
noncomputable def e_spec_l5Draw : Entry := ⟨s_spec_l5Draw, fun a => D.spec_l5Draw a⟩
noncomputable def v_spec_l5Draw : Env := { ti := look tab, Γ := fns [(221, [], e_spec_l1Below), (223, [], e_spec_l4Draw), (246, [], e_spec_l5Body)], loop := fun _ => none, cut := fun _ => none, deep := fun _ => false }
theorem c_spec_l5Draw : Contract Try.prog 241 e_spec_l5Draw.sig e_spec_l5Draw.F :=
  den_is (E := v_spec_l5Draw) ⟨tab_ti, tab_eq⟩ (fns_cons c_spec_l1Below (fns_cons c_spec_l4Draw (fns_cons c_spec_l5Body (fns_nil _)))) mixed Try.func241 (by kernel_rfl) (by kernel_rfl) (fun x => by kernel_rfl)

def s_spec_l15Draw : Sig := { params := [.ioptr y251], res := [.row 139 y139 true] }
noncomputable def e_spec_l15Draw : Entry := ⟨s_spec_l15Draw, fun a => D.spec_l15Draw a⟩
noncomputable def v_spec_l15Draw : Env := { ti := look tab, Γ := fns [(221, [], e_spec_l1Below), (223, [], e_spec_l4Draw), (241, [], e_spec_l5Draw)], loop := fun b => match b with | 0 => some [.slot 3 (.own 139 y139 true), .slot 4 (.int .i64), .box 0 [.ro 5 y5, .int .i64, .int .i64]] | _ => none, cut := fun _ => none, deep := fun t => Nat.beq t 5 || Nat.beq t 20 }
theorem c_spec_l15Draw : Contract Try.prog 222 e_spec_l15Draw.sig e_spec_l15Draw.F :=
  den_is (E := v_spec_l15Draw) ⟨tab_ti, tab_eq⟩ (fns_cons c_spec_l1Below (fns_cons c_spec_l4Draw (fns_cons c_spec_l5Draw (fns_nil _)))) mixed Try.func222 (by kernel_rfl) (by kernel_rfl) (fun x => by kernel_rfl)

def s_spec_l1Once : Sig := { params := [.ioptr y251, .val false y3], res := [.val false y4] }
noncomputable def e_spec_l1Once : Entry := ⟨s_spec_l1Once, fun a => D.spec_l1Once a.1 a.2⟩
noncomputable def v_spec_l1Once : Env := { ti := look tab, Γ := fns [(221, [], e_spec_l1Below)], loop := fun _ => none, cut := fun _ => none, deep := fun _ => false }
theorem c_spec_l1Once : Contract Try.prog 177 e_spec_l1Once.sig e_spec_l1Once.F :=
  den_is (E := v_spec_l1Once) ⟨tab_ti, tab_eq⟩ (fns_cons c_spec_l1Below (fns_nil _)) mixed Try.func177 (by kernel_rfl) (by kernel_rfl) (fun x => by kernel_rfl)

def s_spec_l5Copy : Sig := { params := [.val true y137], res := [.val false y3, .row 3 y3 false, .val false y3, .val false y3, .val false y3], rgroups := [some 5] }
noncomputable def e_spec_l5Copy : Entry := ⟨s_spec_l5Copy, fun a => D.spec_l5Copy a⟩
noncomputable def v_spec_l5Copy : Env := { ti := look tab, Γ := fns [], loop := fun _ => none, cut := fun _ => none, deep := fun _ => false }
theorem c_spec_l5Copy : Contract Try.prog 201 e_spec_l5Copy.sig e_spec_l5Copy.F :=
  den_is (E := v_spec_l5Copy) ⟨tab_ti, tab_eq⟩ (fns_nil _) mixed Try.func201 (by kernel_rfl) (by kernel_rfl) (fun x => by kernel_rfl)

def s_spec_l15Copy : Sig := { params := [.val false y58], res := [.row 139 y139 true] }
noncomputable def e_spec_l15Copy : Entry := ⟨s_spec_l15Copy, fun a => D.spec_l15Copy a⟩
noncomputable def v_spec_l15Copy : Env := { ti := look tab, Γ := fns [(201, [], e_spec_l5Copy)], loop := fun b => match b with | 0 => some [.slot 3 (.own 139 y139 true), .slot 4 (.int .i64)] | _ => none, cut := fun _ => none, deep := fun t => Nat.beq t 5 || Nat.beq t 30 }
theorem c_spec_l15Copy : Contract Try.prog 123 e_spec_l15Copy.sig e_spec_l15Copy.F :=
  den_is (E := v_spec_l15Copy) ⟨tab_ti, tab_eq⟩ (fns_cons c_spec_l5Copy (fns_nil _)) mixed Try.func123 (by kernel_rfl) (by kernel_rfl) (fun x => by kernel_rfl)

def s_spec_l23Lists : Sig := { params := [.ioptr y251], res := [.row 58 y58 true] }
noncomputable def e_spec_l23Lists : Entry := ⟨s_spec_l23Lists, fun a => D.spec_l23Lists a⟩
noncomputable def v_spec_l23Lists : Env := { ti := look tab, Γ := fns [(221, [], e_spec_l1Below), (222, [], e_spec_l15Draw), (177, [], e_spec_l1Once), (123, [], e_spec_l15Copy)], loop := fun b => match b with | 0 => some [.slot 3 (.own 58 y58 true), .slot 4 (.int .i64), .box 0 [.ro 5 y5, .int .i64, .int .i64]] | _ => none, cut := fun _ => none, deep := fun t => Nat.beq t 6 || Nat.beq t 30 }
theorem c_spec_l23Lists : Contract Try.prog 169 e_spec_l23Lists.sig e_spec_l23Lists.F :=
  den_is (E := v_spec_l23Lists) ⟨tab_ti, tab_eq⟩ (fns_cons c_spec_l1Below (fns_cons c_spec_l15Draw (fns_cons c_spec_l1Once (fns_cons c_spec_l15Copy (fns_nil _))))) mixed Try.func169 (by kernel_rfl) (by kernel_rfl) (fun x => by kernel_rfl)

def s_spec_l23Hidden : Sig := { params := [.ioptr y251], res := [.row 93 y93 false] }
noncomputable def e_spec_l23Hidden : Entry := ⟨s_spec_l23Hidden, fun a => D.spec_l23Hidden a⟩
noncomputable def v_spec_l23Hidden : Env := { ti := look tab, Γ := fns [(221, [], e_spec_l1Below), (223, [], e_spec_l4Draw)], loop := fun b => match b with | 0 => some [.slot 3 (.own 93 y93 false), .slot 4 (.int .i64), .box 0 [.ro 5 y5, .int .i64, .int .i64]] | _ => none, cut := fun _ => none, deep := fun _ => false }
theorem c_spec_l23Hidden : Contract Try.prog 170 e_spec_l23Hidden.sig e_spec_l23Hidden.F :=
  den_is (E := v_spec_l23Hidden) ⟨tab_ti, tab_eq⟩ (fns_cons c_spec_l1Below (fns_cons c_spec_l4Draw (fns_nil _))) mixed Try.func170 (by kernel_rfl) (by kernel_rfl) (fun x => by kernel_rfl)

def s_spec_l1Int : Sig := { params := [.ioptr y251, .val false y24], res := [.val false y3] }
noncomputable def e_spec_l1Int : Entry := ⟨s_spec_l1Int, fun a => D.spec_l1Int a.1 a.2⟩
noncomputable def v_spec_l1Int : Env := { ti := look tab, Γ := fns [(221, [], e_spec_l1Below)], loop := fun _ => none, cut := fun _ => none, deep := fun _ => false }
theorem c_spec_l1Int : Contract Try.prog 171 e_spec_l1Int.sig e_spec_l1Int.F :=
  den_is (E := v_spec_l1Int) ⟨tab_ti, tab_eq⟩ (fns_cons c_spec_l1Below (fns_nil _)) mixed Try.func171 (by kernel_rfl) (by kernel_rfl) (fun x => by kernel_rfl)

def s_spec_DrawMakeEdition : Sig := { params := [.val false y131], res := [.val false y111, .val false y3, .val false y3, .val false y73] }
noncomputable def e_spec_DrawMakeEdition : Entry := ⟨s_spec_DrawMakeEdition, fun a => D.spec_DrawMakeEdition a⟩
noncomputable def v_spec_DrawMakeEdition : Env := { ti := look tab, Γ := fns [(168, [], e_spec_l1New), (169, [], e_spec_l23Lists), (170, [], e_spec_l23Hidden), (171, [], e_spec_l1Int)], loop := fun _ => none, cut := fun _ => none, deep := fun _ => false }
theorem c_spec_DrawMakeEdition : Contract Try.prog 91 e_spec_DrawMakeEdition.sig e_spec_DrawMakeEdition.F :=
  den_is (E := v_spec_DrawMakeEdition) ⟨tab_ti, tab_eq⟩ (fns_cons c_spec_l1New (fns_cons c_spec_l23Lists (fns_cons c_spec_l23Hidden (fns_cons c_spec_l1Int (fns_nil _))))) mixed Try.func91 (by kernel_rfl) (by kernel_rfl) (fun x => by kernel_rfl)

def s_impl_InRange : Sig := { params := [.val false y3, .val false y3, .val false y3], res := [.val false y4] }
noncomputable def e_impl_InRange : Entry := ⟨s_impl_InRange, fun a => D.impl_InRange a.1 a.2.1 a.2.2⟩
noncomputable def v_impl_InRange : Env := { ti := look tab, Γ := fns [], loop := fun _ => none, cut := fun _ => none, deep := fun _ => false }
theorem c_impl_InRange : Contract Try.prog 156 e_impl_InRange.sig e_impl_InRange.F :=
  den_is (E := v_impl_InRange) ⟨tab_ti, tab_eq⟩ (fns_nil _) mixed Try.func156 (by kernel_rfl) (by kernel_rfl) (fun x => by kernel_rfl)

def s_slices_Clone_Address : Sig := { params := [.val false y73], res := [.row 93 y93 false] }
noncomputable def e_slices_Clone_Address : Entry := ⟨s_slices_Clone_Address, fun a => D.slices_Clone_Address a⟩
noncomputable def v_slices_Clone_Address : Env := { ti := look tab, Γ := fns [], loop := fun _ => none, cut := fun _ => none, deep := fun _ => false }
theorem c_slices_Clone_Address : Contract Try.prog 157 e_slices_Clone_Address.sig e_slices_Clone_Address.F :=
  den_is (E := v_slices_Clone_Address) ⟨tab_ti, tab_eq⟩ (fns_nil _) mixed Try.func157 (by kernel_rfl) (by kernel_rfl) (fun x => by kernel_rfl)

def s_impl_IsAddress : Sig := { params := [.val true y93], res := [.val false y4] }
noncomputable def e_impl_IsAddress : Entry := ⟨s_impl_IsAddress, fun a => D.impl_IsAddress a⟩
noncomputable def v_impl_IsAddress : Env := { ti := look tab, Γ := fns [(156, [], e_impl_InRange)], loop := fun _ => none, cut := fun _ => none, deep := fun _ => false }
theorem c_impl_IsAddress : Contract Try.prog 198 e_impl_IsAddress.sig e_impl_IsAddress.F :=
  den_is (E := v_impl_IsAddress) ⟨tab_ti, tab_eq⟩ (fns_cons c_impl_InRange (fns_nil _)) mixed Try.func198 (by kernel_rfl) (by kernel_rfl) (fun x => by kernel_rfl)

def s_impl_allIn : Sig := { params := [.val false y24, .val false y3, .val false y3], res := [.val false y4] }
noncomputable def e_impl_allIn : Entry := ⟨s_impl_allIn, fun a => D.impl_allIn a.1 a.2.1 a.2.2⟩
noncomputable def v_impl_allIn : Env := { ti := look tab, Γ := fns [(156, [], e_impl_InRange)], loop := fun b => match b with | 0 => some [.slot 11 (.int .i64)] | _ => none, cut := fun _ => none, deep := fun _ => false }
theorem c_impl_allIn : Contract Try.prog 239 e_impl_allIn.sig e_impl_allIn.F :=
  den_is (E := v_impl_allIn) ⟨tab_ti, tab_eq⟩ (fns_cons c_impl_InRange (fns_nil _)) mixed Try.func239 (by kernel_rfl) (by kernel_rfl) (fun x => by kernel_rfl)

def s_impl_IsResource : Sig := { params := [.val true y137], res := [.val false y4] }
noncomputable def e_impl_IsResource : Entry := ⟨s_impl_IsResource, fun a => D.impl_IsResource a⟩
noncomputable def v_impl_IsResource : Env := { ti := look tab, Γ := fns [(239, [], e_impl_allIn), (198, [], e_impl_IsAddress)], loop := fun _ => none, cut := fun _ => none, deep := fun _ => false }
theorem c_impl_IsResource : Contract Try.prog 217 e_impl_IsResource.sig e_impl_IsResource.F :=
  den_is (E := v_impl_IsResource) ⟨tab_ti, tab_eq⟩ (fns_cons c_impl_allIn (fns_cons c_impl_IsAddress (fns_nil _))) mixed Try.func217 (by kernel_rfl) (by kernel_rfl) (fun x => by kernel_rfl)

def s_impl_AreCaptures_1 : Sig := { params := [.val true y139], res := [.val false y4] }
noncomputable def e_impl_AreCaptures_1 : Entry := ⟨s_impl_AreCaptures_1, fun a => D.impl_AreCaptures_1 a⟩
noncomputable def v_impl_AreCaptures_1 : Env := { ti := look tab, Γ := fns [(198, [], e_impl_IsAddress), (156, [], e_impl_InRange), (217, [], e_impl_IsResource)], loop := fun _ => none, cut := fun _ => none, deep := fun _ => false }
theorem c_impl_AreCaptures_1 : Contract Try.prog 216 e_impl_AreCaptures_1.sig e_impl_AreCaptures_1.F :=
  den_is (E := v_impl_AreCaptures_1) ⟨tab_ti, tab_eq⟩ (fns_cons c_impl_IsAddress (fns_cons c_impl_InRange (fns_cons c_impl_IsResource (fns_nil _)))) mixed Try.func216 (by kernel_rfl) (by kernel_rfl) (fun x => by kernel_rfl)

def s_slices_IndexFunc_Capture_impl_AreCaptures_1 : Sig := { params := [.val false y58, .fn 216 []], res := [.val false y3] }
noncomputable def e_slices_IndexFunc_Capture_impl_AreCaptures_1 : Entry := ⟨s_slices_IndexFunc_Capture_impl_AreCaptures_1, fun a => D.slices_IndexFunc_Capture_impl_AreCaptures_1 a.1⟩
noncomputable def v_slices_IndexFunc_Capture_impl_AreCaptures_1 : Env := { ti := look tab, Γ := fns [(216, [], e_impl_AreCaptures_1)], loop := fun b => match b with | 0 => some [.slot 8 (.int .i64)] | _ => none, cut := fun _ => none, deep := fun _ => false }
theorem c_slices_IndexFunc_Capture_impl_AreCaptures_1 : Contract Try.prog 238 e_slices_IndexFunc_Capture_impl_AreCaptures_1.sig e_slices_IndexFunc_Capture_impl_AreCaptures_1.F :=
  den_is (E := v_slices_IndexFunc_Capture_impl_AreCaptures_1) ⟨tab_ti, tab_eq⟩ (fns_cons c_impl_AreCaptures_1 (fns_nil _)) mixed Try.func238 (by kernel_rfl) (by kernel_rfl) (fun x => by kernel_rfl)

def s_slices_ContainsFunc_Capture_impl_AreCaptures_1 : Sig := { params := [.val false y58, .fn 216 []], res := [.val false y4] }
noncomputable def e_slices_ContainsFunc_Capture_impl_AreCaptures_1 : Entry := ⟨s_slices_ContainsFunc_Capture_impl_AreCaptures_1, fun a => D.slices_ContainsFunc_Capture_impl_AreCaptures_1 a.1⟩
noncomputable def v_slices_ContainsFunc_Capture_impl_AreCaptures_1 : Env := { ti := look tab, Γ := fns [(238, [216], e_slices_IndexFunc_Capture_impl_AreCaptures_1)], loop := fun _ => none, cut := fun _ => none, deep := fun _ => false }
theorem c_slices_ContainsFunc_Capture_impl_AreCaptures_1 : Contract Try.prog 215 e_slices_ContainsFunc_Capture_impl_AreCaptures_1.sig e_slices_ContainsFunc_Capture_impl_AreCaptures_1.F :=
  den_is (E := v_slices_ContainsFunc_Capture_impl_AreCaptures_1) ⟨tab_ti, tab_eq⟩ (fns_cons c_slices_IndexFunc_Capture_impl_AreCaptures_1 (fns_nil _)) mixed Try.func215 (by kernel_rfl) (by kernel_rfl) (fun x => by kernel_rfl)

def s_impl_AreCaptures : Sig := { params := [.val false y58], res := [.val false y4] }
noncomputable def e_impl_AreCaptures : Entry := ⟨s_impl_AreCaptures, fun a => D.impl_AreCaptures a⟩
noncomputable def v_impl_AreCaptures : Env := { ti := look tab, Γ := fns [(215, [216], e_slices_ContainsFunc_Capture_impl_AreCaptures_1)], loop := fun _ => none, cut := fun _ => none, deep := fun _ => false }
theorem c_impl_AreCaptures : Contract Try.prog 158 e_impl_AreCaptures.sig e_impl_AreCaptures.F :=
  den_is (E := v_impl_AreCaptures) ⟨tab_ti, tab_eq⟩ (fns_cons c_slices_ContainsFunc_Capture_impl_AreCaptures_1 (fns_nil _)) mixed Try.func158 (by kernel_rfl) (by kernel_rfl) (fun x => by kernel_rfl)

def s_slices_Index_Address : Sig := { params := [.val false y73, .val true y93], res := [.val false y3] }
noncomputable def e_slices_Index_Address : Entry := ⟨s_slices_Index_Address, fun a => D.slices_Index_Address a.1 a.2⟩
noncomputable def v_slices_Index_Address : Env := { ti := look tab, Γ := fns [], loop := fun b => match b with | 0 => some [.slot 8 (.int .i64)] | _ => none, cut := fun _ => none, deep := fun _ => false }
theorem c_slices_Index_Address : Contract Try.prog 218 e_slices_Index_Address.sig e_slices_Index_Address.F :=
  den_is (E := v_slices_Index_Address) ⟨tab_ti, tab_eq⟩ (fns_nil _) mixed Try.func218 (by kernel_rfl) (by kernel_rfl) (fun x => by kernel_rfl)

def s_slices_Contains_Address : Sig := { params := [.val false y73, .val true y93], res := [.val false y4] }
noncomputable def e_slices_Contains_Address : Entry := ⟨s_slices_Contains_Address, fun a => D.slices_Contains_Address a.1 a.2⟩
noncomputable def v_slices_Contains_Address : Env := { ti := look tab, Γ := fns [(218, [], e_slices_Index_Address)], loop := fun _ => none, cut := fun _ => none, deep := fun _ => false }
theorem c_slices_Contains_Address : Contract Try.prog 159 e_slices_Contains_Address.sig e_slices_Contains_Address.F :=
  den_is (E := v_slices_Contains_Address) ⟨tab_ti, tab_eq⟩ (fns_cons c_slices_Index_Address (fns_nil _)) mixed Try.func159 (by kernel_rfl) (by kernel_rfl) (fun x => by kernel_rfl)

def s_slices_Clone_int : Sig := { params := [.val false y24], res := [.row 3 y3 false] }
noncomputable def e_slices_Clone_int : Entry := ⟨s_slices_Clone_int, fun a => D.slices_Clone_int a⟩
noncomputable def v_slices_Clone_int : Env := { ti := look tab, Γ := fns [], loop := fun _ => none, cut := fun _ => none, deep := fun _ => false }
theorem c_slices_Clone_int : Contract Try.prog 232 e_slices_Clone_int.sig e_slices_Clone_int.F :=
  den_is (E := v_slices_Clone_int) ⟨tab_ti, tab_eq⟩ (fns_nil _) mixed Try.func232 (by kernel_rfl) (by kernel_rfl) (fun x => by kernel_rfl)

def s_impl_copyResource : Sig := { params := [.val true y137], res := [.val false y3, .row 3 y3 false, .val false y3, .val false y3, .val false y3], rgroups := [some 5] }
noncomputable def e_impl_copyResource : Entry := ⟨s_impl_copyResource, fun a => D.impl_copyResource a⟩
noncomputable def v_impl_copyResource : Env := { ti := look tab, Γ := fns [(232, [], e_slices_Clone_int)], loop := fun _ => none, cut := fun _ => none, deep := fun _ => false }
theorem c_impl_copyResource : Contract Try.prog 205 e_impl_copyResource.sig e_impl_copyResource.F :=
  den_is (E := v_impl_copyResource) ⟨tab_ti, tab_eq⟩ (fns_cons c_slices_Clone_int (fns_nil _)) mixed Try.func205 (by kernel_rfl) (by kernel_rfl) (fun x => by kernel_rfl)

def s_impl_copyCaptures : Sig := { params := [.val false y58], res := [.row 139 y139 true] }
noncomputable def e_impl_copyCaptures : Entry := ⟨s_impl_copyCaptures, fun a => D.impl_copyCaptures a⟩
noncomputable def v_impl_copyCaptures : Env := { ti := look tab, Γ := fns [(205, [], e_impl_copyResource)], loop := fun b => match b with | 0 => some [.slot 3 (.own 139 y139 true), .slot 8 (.int .i64)] | _ => none, cut := fun _ => none, deep := fun t => Nat.beq t 21 }
theorem c_impl_copyCaptures : Contract Try.prog 129 e_impl_copyCaptures.sig e_impl_copyCaptures.F :=
  den_is (E := v_impl_copyCaptures) ⟨tab_ti, tab_eq⟩ (fns_cons c_impl_copyResource (fns_nil _)) mixed Try.func129 (by kernel_rfl) (by kernel_rfl) (fun x => by kernel_rfl)

def s_slices_Equal_int : Sig := { params := [.val false y24, .val false y24], res := [.val false y4] }
noncomputable def e_slices_Equal_int : Entry := ⟨s_slices_Equal_int, fun a => D.slices_Equal_int a.1 a.2⟩
noncomputable def v_slices_Equal_int : Env := { ti := look tab, Γ := fns [], loop := fun b => match b with | 0 => some [.slot 13 (.int .i64)] | _ => none, cut := fun _ => none, deep := fun _ => false }
theorem c_slices_Equal_int : Contract Try.prog 242 e_slices_Equal_int.sig e_slices_Equal_int.F :=
  den_is (E := v_slices_Equal_int) ⟨tab_ti, tab_eq⟩ (fns_nil _) mixed Try.func242 (by kernel_rfl) (by kernel_rfl) (fun x => by kernel_rfl)

def s_impl_EqualResources : Sig := { params := [.val true y137, .val true y137], res := [.val false y4] }
noncomputable def e_impl_EqualResources : Entry := ⟨s_impl_EqualResources, fun a => D.impl_EqualResources a.1 a.2⟩
noncomputable def v_impl_EqualResources : Env := { ti := look tab, Γ := fns [(242, [], e_slices_Equal_int)], loop := fun _ => none, cut := fun _ => none, deep := fun _ => false }
theorem c_impl_EqualResources : Contract Try.prog 225 e_impl_EqualResources.sig e_impl_EqualResources.F :=
  den_is (E := v_impl_EqualResources) ⟨tab_ti, tab_eq⟩ (fns_cons c_slices_Equal_int (fns_nil _)) mixed Try.func225 (by kernel_rfl) (by kernel_rfl) (fun x => by kernel_rfl)

def s_impl_sameCapture : Sig := { params := [.val true y139, .val true y139], res := [.val false y4] }
noncomputable def e_impl_sameCapture : Entry := ⟨s_impl_sameCapture, fun a => D.impl_sameCapture a.1 a.2⟩
noncomputable def v_impl_sameCapture : Env := { ti := look tab, Γ := fns [(225, [], e_impl_EqualResources)], loop := fun _ => none, cut := fun _ => none, deep := fun _ => false }
theorem c_impl_sameCapture : Contract Try.prog 174 e_impl_sameCapture.sig e_impl_sameCapture.F :=
  den_is (E := v_impl_sameCapture) ⟨tab_ti, tab_eq⟩ (fns_cons c_impl_EqualResources (fns_nil _)) mixed Try.func174 (by kernel_rfl) (by kernel_rfl) (fun x => by kernel_rfl)

def s_impl_hasCapture_1 : Sig := { params := [.val true y139, .cptr y139], res := [.val false y4] }
noncomputable def e_impl_hasCapture_1 : Entry := ⟨s_impl_hasCapture_1, fun a => D.impl_hasCapture_1 a.1 a.2⟩
noncomputable def v_impl_hasCapture_1 : Env := { ti := look tab, Γ := fns [(174, [], e_impl_sameCapture)], loop := fun _ => none, cut := fun _ => none, deep := fun _ => false }
theorem c_impl_hasCapture_1 : Contract Try.prog 224 e_impl_hasCapture_1.sig e_impl_hasCapture_1.F :=
  den_is (E := v_impl_hasCapture_1) ⟨tab_ti, tab_eq⟩ (fns_cons c_impl_sameCapture (fns_nil _)) mixed Try.func224 (by kernel_rfl) (by kernel_rfl) (fun x => by kernel_rfl)

def s_slices_IndexFunc_Capture_impl_hasCapture_1 : Sig := { params := [.val false y58, .fn 224 [y139]], res := [.val false y3] }
noncomputable def e_slices_IndexFunc_Capture_impl_hasCapture_1 : Entry := ⟨s_slices_IndexFunc_Capture_impl_hasCapture_1, fun a => D.slices_IndexFunc_Capture_impl_hasCapture_1 a.1 a.2⟩
noncomputable def v_slices_IndexFunc_Capture_impl_hasCapture_1 : Env := { ti := look tab, Γ := fns [(224, [], e_impl_hasCapture_1)], loop := fun b => match b with | 0 => some [.slot 8 (.int .i64)] | _ => none, cut := fun _ => none, deep := fun _ => false }
theorem c_slices_IndexFunc_Capture_impl_hasCapture_1 : Contract Try.prog 238 e_slices_IndexFunc_Capture_impl_hasCapture_1.sig e_slices_IndexFunc_Capture_impl_hasCapture_1.F :=
  den_is (E := v_slices_IndexFunc_Capture_impl_hasCapture_1) ⟨tab_ti, tab_eq⟩ (fns_cons c_impl_hasCapture_1 (fns_nil _)) mixed Try.func238 (by kernel_rfl) (by kernel_rfl) (fun x => by kernel_rfl)

def s_slices_ContainsFunc_Capture_impl_hasCapture_1 : Sig := { params := [.val false y58, .fn 224 [y139]], res := [.val false y4] }
noncomputable def e_slices_ContainsFunc_Capture_impl_hasCapture_1 : Entry := ⟨s_slices_ContainsFunc_Capture_impl_hasCapture_1, fun a => D.slices_ContainsFunc_Capture_impl_hasCapture_1 a.1 a.2⟩
noncomputable def v_slices_ContainsFunc_Capture_impl_hasCapture_1 : Env := { ti := look tab, Γ := fns [(238, [224], e_slices_IndexFunc_Capture_impl_hasCapture_1)], loop := fun _ => none, cut := fun _ => none, deep := fun _ => false }
theorem c_slices_ContainsFunc_Capture_impl_hasCapture_1 : Contract Try.prog 215 e_slices_ContainsFunc_Capture_impl_hasCapture_1.sig e_slices_ContainsFunc_Capture_impl_hasCapture_1.F :=
  den_is (E := v_slices_ContainsFunc_Capture_impl_hasCapture_1) ⟨tab_ti, tab_eq⟩ (fns_cons c_slices_IndexFunc_Capture_impl_hasCapture_1 (fns_nil _)) mixed Try.func215 (by kernel_rfl) (by kernel_rfl) (fun x => by kernel_rfl)

def s_impl_hasCapture : Sig := { params := [.val false y58, .val true y139], res := [.val false y4] }
noncomputable def e_impl_hasCapture : Entry := ⟨s_impl_hasCapture, fun a => D.impl_hasCapture a.1 a.2⟩
noncomputable def v_impl_hasCapture : Env := { ti := look tab, Γ := fns [(215, [224], e_slices_ContainsFunc_Capture_impl_hasCapture_1)], loop := fun _ => none, cut := fun _ => none, deep := fun _ => false }
theorem c_impl_hasCapture : Contract Try.prog 172 e_impl_hasCapture.sig e_impl_hasCapture.F :=
  den_is (E := v_impl_hasCapture) ⟨tab_ti, tab_eq⟩ (fns_cons c_slices_ContainsFunc_Capture_impl_hasCapture_1 (fns_nil _)) mixed Try.func172 (by kernel_rfl) (by kernel_rfl) (fun x => by kernel_rfl)

def s_impl_AddCaptures : Sig := { params := [.val false y58, .val false y58], res := [.row 139 y139 true, .val false y4] }
noncomputable def e_impl_AddCaptures : Entry := ⟨s_impl_AddCaptures, fun a => D.impl_AddCaptures a.1 a.2⟩
noncomputable def v_impl_AddCaptures : Env := { ti := look tab, Γ := fns [(129, [], e_impl_copyCaptures), (172, [], e_impl_hasCapture), (205, [], e_impl_copyResource), (158, [], e_impl_AreCaptures)], loop := fun b => match b with | 0 => some [.slot 6 (.own 139 y139 true), .slot 13 (.int .i64)] | _ => none, cut := fun _ => none, deep := fun t => Nat.beq t 30 }
theorem c_impl_AddCaptures : Contract Try.prog 160 e_impl_AddCaptures.sig e_impl_AddCaptures.F :=
  den_is (E := v_impl_AddCaptures) ⟨tab_ti, tab_eq⟩ (fns_cons c_impl_copyCaptures (fns_cons c_impl_hasCapture (fns_cons c_impl_copyResource (fns_cons c_impl_AreCaptures (fns_nil _))))) mixed Try.func160 (by kernel_rfl) (by kernel_rfl) (fun x => by kernel_rfl)

def s_impl_MakeEdition : Sig := { params := [.val false y111, .val false y3, .val false y3, .val false y73], res := [.row 139 y139 true, .val false y3, .val false y3, .row 93 y93 false, .val false y4], rgroups := [some 4, none] }
noncomputable def e_impl_MakeEdition : Entry := ⟨s_impl_MakeEdition, fun a => D.impl_MakeEdition a.1 a.2.1 a.2.2.1 a.2.2.2⟩
noncomputable def v_impl_MakeEdition : Env := { ti := look tab, Γ := fns [(156, [], e_impl_InRange), (157, [], e_slices_Clone_Address), (158, [], e_impl_AreCaptures), (159, [], e_slices_Contains_Address), (160, [], e_impl_AddCaptures)], loop := fun b => match b with | 0 => some [.slot 35 (.int .i64), .box 8 [.ro 139 y139, .int .i64, .int .i64, .ro 93 y93], .box 10 [.own 139 y139 true, .int .i64, .int .i64, .own 93 y93 false]] | 2 => some [.slot 13 (.own 139 y139 false), .slot 45 (.int .i64)] | _ => none, cut := fun _ => none, deep := fun _ => false }
theorem c_impl_MakeEdition : Contract Try.prog 77 e_impl_MakeEdition.sig e_impl_MakeEdition.F :=
  den_is (E := v_impl_MakeEdition) ⟨tab_ti, tab_eq⟩ (fns_cons c_impl_InRange (fns_cons c_slices_Clone_Address (fns_cons c_impl_AreCaptures (fns_cons c_slices_Contains_Address (fns_cons c_impl_AddCaptures (fns_nil _)))))) mixed Try.func77 (by kernel_rfl) (by kernel_rfl) (fun x => by kernel_rfl)

def s_impl_IsEdition : Sig := { params := [.val true y75], res := [.val false y4] }
noncomputable def e_impl_IsEdition : Entry := ⟨s_impl_IsEdition, fun a => D.impl_IsEdition a⟩
noncomputable def v_impl_IsEdition : Env := { ti := look tab, Γ := fns [(158, [], e_impl_AreCaptures), (156, [], e_impl_InRange), (159, [], e_slices_Contains_Address), (172, [], e_impl_hasCapture)], loop := fun b => match b with | 0 => some [.slot 25 (.int .i64)] | _ => none, cut := fun _ => none, deep := fun _ => false }
theorem c_impl_IsEdition : Contract Try.prog 92 e_impl_IsEdition.sig e_impl_IsEdition.F :=
  den_is (E := v_impl_IsEdition) ⟨tab_ti, tab_eq⟩ (fns_cons c_impl_AreCaptures (fns_cons c_impl_InRange (fns_cons c_slices_Contains_Address (fns_cons c_impl_hasCapture (fns_nil _))))) mixed Try.func92 (by kernel_rfl) (by kernel_rfl) (fun x => by kernel_rfl)

def s_slices_EqualFunc_Capture_impl_sameCapture : Sig := { params := [.val false y58, .val false y58, .fn 174 []], res := [.val false y4] }
noncomputable def e_slices_EqualFunc_Capture_impl_sameCapture : Entry := ⟨s_slices_EqualFunc_Capture_impl_sameCapture, fun a => D.slices_EqualFunc_Capture_impl_sameCapture a.1 a.2.1⟩
noncomputable def v_slices_EqualFunc_Capture_impl_sameCapture : Env := { ti := look tab, Γ := fns [(174, [], e_impl_sameCapture)], loop := fun b => match b with | 0 => some [.slot 17 (.int .i64)] | _ => none, cut := fun _ => none, deep := fun _ => false }
theorem c_slices_EqualFunc_Capture_impl_sameCapture : Contract Try.prog 173 e_slices_EqualFunc_Capture_impl_sameCapture.sig e_slices_EqualFunc_Capture_impl_sameCapture.F :=
  den_is (E := v_slices_EqualFunc_Capture_impl_sameCapture) ⟨tab_ti, tab_eq⟩ (fns_cons c_impl_sameCapture (fns_nil _)) mixed Try.func173 (by kernel_rfl) (by kernel_rfl) (fun x => by kernel_rfl)

def s_impl_EqualCaptures : Sig := { params := [.val false y58, .val false y58], res := [.val false y4] }
noncomputable def e_impl_EqualCaptures : Entry := ⟨s_impl_EqualCaptures, fun a => D.impl_EqualCaptures a.1 a.2⟩
noncomputable def v_impl_EqualCaptures : Env := { ti := look tab, Γ := fns [(173, [174], e_slices_EqualFunc_Capture_impl_sameCapture)], loop := fun _ => none, cut := fun _ => none, deep := fun _ => false }
theorem c_impl_EqualCaptures : Contract Try.prog 93 e_impl_EqualCaptures.sig e_impl_EqualCaptures.F :=
  den_is (E := v_impl_EqualCaptures) ⟨tab_ti, tab_eq⟩ (fns_cons c_slices_EqualFunc_Capture_impl_sameCapture (fns_nil _)) mixed Try.func93 (by kernel_rfl) (by kernel_rfl) (fun x => by kernel_rfl)

def s_impl_outside : Sig := { params := [.val false y58, .val false y73], res := [.row 139 y139 false] }
noncomputable def e_impl_outside : Entry := ⟨s_impl_outside, fun a => D.impl_outside a.1 a.2⟩
noncomputable def v_impl_outside : Env := { ti := look tab, Γ := fns [(159, [], e_slices_Contains_Address)], loop := fun b => match b with | 0 => some [.slot 5 (.own 139 y139 false), .slot 10 (.int .i64)] | _ => none, cut := fun _ => none, deep := fun _ => false }
theorem c_impl_outside : Contract Try.prog 175 e_impl_outside.sig e_impl_outside.F :=
  den_is (E := v_impl_outside) ⟨tab_ti, tab_eq⟩ (fns_cons c_slices_Contains_Address (fns_nil _)) mixed Try.func175 (by kernel_rfl) (by kernel_rfl) (fun x => by kernel_rfl)

def s_impl_AgreeOutside : Sig := { params := [.val true y75, .val true y75, .val false y73], res := [.val false y4] }
noncomputable def e_impl_AgreeOutside : Entry := ⟨s_impl_AgreeOutside, fun a => D.impl_AgreeOutside a.1 a.2.1 a.2.2⟩
noncomputable def v_impl_AgreeOutside : Env := { ti := look tab, Γ := fns [(175, [], e_impl_outside), (93, [], e_impl_EqualCaptures)], loop := fun _ => none, cut := fun _ => none, deep := fun _ => false }
theorem c_impl_AgreeOutside : Contract Try.prog 94 e_impl_AgreeOutside.sig e_impl_AgreeOutside.F :=
  den_is (E := v_impl_AgreeOutside) ⟨tab_ti, tab_eq⟩ (fns_cons c_impl_outside (fns_cons c_impl_EqualCaptures (fns_nil _))) mixed Try.func94 (by kernel_rfl) (by kernel_rfl) (fun x => by kernel_rfl)

def s_spec_l1In : Sig := { params := [.val false y3, .val false y3, .val false y3], res := [.val false y4] }
noncomputable def e_spec_l1In : Entry := ⟨s_spec_l1In, fun a => D.spec_l1In a.1 a.2.1 a.2.2⟩
noncomputable def v_spec_l1In : Env := { ti := look tab, Γ := fns [], loop := fun _ => none, cut := fun _ => none, deep := fun _ => false }
theorem c_spec_l1In : Contract Try.prog 152 e_spec_l1In.sig e_spec_l1In.F :=
  den_is (E := v_spec_l1In) ⟨tab_ti, tab_eq⟩ (fns_nil _) mixed Try.func152 (by kernel_rfl) (by kernel_rfl) (fun x => by kernel_rfl)

def s_spec_IsAddress : Sig := { params := [.val true y93], res := [.val false y4] }
noncomputable def e_spec_IsAddress : Entry := ⟨s_spec_IsAddress, fun a => D.spec_IsAddress a⟩
noncomputable def v_spec_IsAddress : Env := { ti := look tab, Γ := fns [(152, [], e_spec_l1In)], loop := fun _ => none, cut := fun _ => none, deep := fun _ => false }
theorem c_spec_IsAddress : Contract Try.prog 189 e_spec_IsAddress.sig e_spec_IsAddress.F :=
  den_is (E := v_spec_IsAddress) ⟨tab_ti, tab_eq⟩ (fns_cons c_spec_l1In (fns_nil _)) mixed Try.func189 (by kernel_rfl) (by kernel_rfl) (fun x => by kernel_rfl)

def s_spec_l5Bytes : Sig := { params := [.val false y24], res := [.val false y4] }
noncomputable def e_spec_l5Bytes : Entry := ⟨s_spec_l5Bytes, fun a => D.spec_l5Bytes a⟩
noncomputable def v_spec_l5Bytes : Env := { ti := look tab, Γ := fns [(152, [], e_spec_l1In)], loop := fun b => match b with | 0 => some [.slot 3 (.int .i64)] | _ => none, cut := fun _ => none, deep := fun _ => false }
theorem c_spec_l5Bytes : Contract Try.prog 236 e_spec_l5Bytes.sig e_spec_l5Bytes.F :=
  den_is (E := v_spec_l5Bytes) ⟨tab_ti, tab_eq⟩ (fns_cons c_spec_l1In (fns_nil _)) mixed Try.func236 (by kernel_rfl) (by kernel_rfl) (fun x => by kernel_rfl)

def s_spec_IsResource : Sig := { params := [.val true y137], res := [.val false y4] }
noncomputable def e_spec_IsResource : Entry := ⟨s_spec_IsResource, fun a => D.spec_IsResource a⟩
noncomputable def v_spec_IsResource : Env := { ti := look tab, Γ := fns [(152, [], e_spec_l1In), (236, [], e_spec_l5Bytes), (189, [], e_spec_IsAddress)], loop := fun _ => none, cut := fun _ => none, deep := fun _ => false }
theorem c_spec_IsResource : Contract Try.prog 212 e_spec_IsResource.sig e_spec_IsResource.F :=
  den_is (E := v_spec_IsResource) ⟨tab_ti, tab_eq⟩ (fns_cons c_spec_l1In (fns_cons c_spec_l5Bytes (fns_cons c_spec_IsAddress (fns_nil _)))) mixed Try.func212 (by kernel_rfl) (by kernel_rfl) (fun x => by kernel_rfl)

def s_spec_AreCaptures : Sig := { params := [.val false y58], res := [.val false y4] }
noncomputable def e_spec_AreCaptures : Entry := ⟨s_spec_AreCaptures, fun a => D.spec_AreCaptures a⟩
noncomputable def v_spec_AreCaptures : Env := { ti := look tab, Γ := fns [(189, [], e_spec_IsAddress), (152, [], e_spec_l1In), (212, [], e_spec_IsResource)], loop := fun b => match b with | 0 => some [.slot 3 (.int .i64)] | _ => none, cut := fun _ => none, deep := fun _ => false }
theorem c_spec_AreCaptures : Contract Try.prog 153 e_spec_AreCaptures.sig e_spec_AreCaptures.F :=
  den_is (E := v_spec_AreCaptures) ⟨tab_ti, tab_eq⟩ (fns_cons c_spec_IsAddress (fns_cons c_spec_l1In (fns_cons c_spec_IsResource (fns_nil _)))) mixed Try.func153 (by kernel_rfl) (by kernel_rfl) (fun x => by kernel_rfl)

def s_spec_l9Has : Sig := { params := [.val false y73, .val true y93], res := [.val false y4] }
noncomputable def e_spec_l9Has : Entry := ⟨s_spec_l9Has, fun a => D.spec_l9Has a.1 a.2⟩
noncomputable def v_spec_l9Has : Env := { ti := look tab, Γ := fns [], loop := fun b => match b with | 0 => some [.slot 5 (.int .i64)] | _ => none, cut := fun _ => none, deep := fun _ => false }
theorem c_spec_l9Has : Contract Try.prog 213 e_spec_l9Has.sig e_spec_l9Has.F :=
  den_is (E := v_spec_l9Has) ⟨tab_ti, tab_eq⟩ (fns_nil _) mixed Try.func213 (by kernel_rfl) (by kernel_rfl) (fun x => by kernel_rfl)

def s_spec_l23Without : Sig := { params := [.val false y58, .val false y73], res := [.val false y58] }
noncomputable def e_spec_l23Without : Entry := ⟨s_spec_l23Without, fun a => D.spec_l23Without a.1 a.2⟩
noncomputable def v_spec_l23Without : Env := { ti := look tab, Γ := fns [(213, [], e_spec_l9Has), (123, [], e_spec_l15Copy)], loop := fun b => match b with | 0 => some [.slot 5 (.own 139 y139 true), .slot 6 (.int .i64)] | _ => none, cut := fun _ => none, deep := fun t => Nat.beq t 7 }
theorem c_spec_l23Without : Contract Try.prog 154 e_spec_l23Without.sig e_spec_l23Without.F :=
  den_is (E := v_spec_l23Without) ⟨tab_ti, tab_eq⟩ (fns_cons c_spec_l9Has (fns_cons c_spec_l15Copy (fns_nil _))) mixed Try.func154 (by kernel_rfl) (by kernel_rfl) (fun x => by kernel_rfl)

def s_spec_EqualInts : Sig := { params := [.val false y24, .val false y24], res := [.val false y4] }
noncomputable def e_spec_EqualInts : Entry := ⟨s_spec_EqualInts, fun a => D.spec_EqualInts a.1 a.2⟩
noncomputable def v_spec_EqualInts : Env := { ti := look tab, Γ := fns [], loop := fun b => match b with | 0 => some [.slot 5 (.int .i64)] | _ => none, cut := fun _ => none, deep := fun _ => false }
theorem c_spec_EqualInts : Contract Try.prog 245 e_spec_EqualInts.sig e_spec_EqualInts.F :=
  den_is (E := v_spec_EqualInts) ⟨tab_ti, tab_eq⟩ (fns_nil _) mixed Try.func245 (by kernel_rfl) (by kernel_rfl) (fun x => by kernel_rfl)

def s_spec_EqualResources : Sig := { params := [.val true y137, .val true y137], res := [.val false y4] }
noncomputable def e_spec_EqualResources : Entry := ⟨s_spec_EqualResources, fun a => D.spec_EqualResources a.1 a.2⟩
noncomputable def v_spec_EqualResources : Env := { ti := look tab, Γ := fns [(245, [], e_spec_EqualInts)], loop := fun _ => none, cut := fun _ => none, deep := fun _ => false }
theorem c_spec_EqualResources : Contract Try.prog 237 e_spec_EqualResources.sig e_spec_EqualResources.F :=
  den_is (E := v_spec_EqualResources) ⟨tab_ti, tab_eq⟩ (fns_cons c_spec_EqualInts (fns_nil _)) mixed Try.func237 (by kernel_rfl) (by kernel_rfl) (fun x => by kernel_rfl)

def s_spec_l15Same : Sig := { params := [.val true y139, .val true y139], res := [.val false y4] }
noncomputable def e_spec_l15Same : Entry := ⟨s_spec_l15Same, fun a => D.spec_l15Same a.1 a.2⟩
noncomputable def v_spec_l15Same : Env := { ti := look tab, Γ := fns [(237, [], e_spec_EqualResources)], loop := fun _ => none, cut := fun _ => none, deep := fun _ => false }
theorem c_spec_l15Same : Contract Try.prog 214 e_spec_l15Same.sig e_spec_l15Same.F :=
  den_is (E := v_spec_l15Same) ⟨tab_ti, tab_eq⟩ (fns_cons c_spec_EqualResources (fns_nil _)) mixed Try.func214 (by kernel_rfl) (by kernel_rfl) (fun x => by kernel_rfl)

def s_spec_l20In : Sig := { params := [.val false y58, .val true y139], res := [.val false y4] }
noncomputable def e_spec_l20In : Entry := ⟨s_spec_l20In, fun a => D.spec_l20In a.1 a.2⟩
noncomputable def v_spec_l20In : Env := { ti := look tab, Γ := fns [(214, [], e_spec_l15Same)], loop := fun b => match b with | 0 => some [.slot 5 (.int .i64)] | _ => none, cut := fun _ => none, deep := fun _ => false }
theorem c_spec_l20In : Contract Try.prog 155 e_spec_l20In.sig e_spec_l20In.F :=
  den_is (E := v_spec_l20In) ⟨tab_ti, tab_eq⟩ (fns_cons c_spec_l15Same (fns_nil _)) mixed Try.func155 (by kernel_rfl) (by kernel_rfl) (fun x => by kernel_rfl)

def s_spec_MakeEdition : Sig := { params := [.val false y111, .val false y3, .val false y3, .val false y73], res := [.row 139 y139 false, .val false y3, .val false y3, .row 93 y93 false, .val false y4], rgroups := [some 4, none] }
noncomputable def e_spec_MakeEdition : Entry := ⟨s_spec_MakeEdition, fun a => D.spec_MakeEdition a.1 a.2.1 a.2.2.1 a.2.2.2⟩
noncomputable def v_spec_MakeEdition : Env := { ti := look tab, Γ := fns [(152, [], e_spec_l1In), (153, [], e_spec_AreCaptures), (154, [], e_spec_l23Without), (155, [], e_spec_l20In)], loop := fun b => match b with | 0 => some [.slot 11 (.int .i64), .box 8 [.ro 139 y139, .int .i64, .int .i64, .ro 93 y93], .box 10 [.own 139 y139 false, .int .i64, .int .i64, .own 93 y93 false]] | 2 => some [.slot 13 (.int .i64), .box 10 [.own 139 y139 false, .int .i64, .int .i64, .own 93 y93 false]] | _ => none, cut := fun _ => none, deep := fun _ => false }
theorem c_spec_MakeEdition : Contract Try.prog 74 e_spec_MakeEdition.sig e_spec_MakeEdition.F :=
  den_is (E := v_spec_MakeEdition) ⟨tab_ti, tab_eq⟩ (fns_cons c_spec_l1In (fns_cons c_spec_AreCaptures (fns_cons c_spec_l23Without (fns_cons c_spec_l20In (fns_nil _))))) mixed Try.func74 (by kernel_rfl) (by kernel_rfl) (fun x => by kernel_rfl)

def s_spec_l23Draw : Sig := { params := [.ioptr y251], res := [.row 139 y139 false, .val false y3, .val false y3, .row 93 y93 false], rgroups := [some 4] }
noncomputable def e_spec_l23Draw : Entry := ⟨s_spec_l23Draw, fun a => D.spec_l23Draw a⟩
noncomputable def v_spec_l23Draw : Env := { ti := look tab, Γ := fns [(169, [], e_spec_l23Lists), (221, [], e_spec_l1Below), (170, [], e_spec_l23Hidden), (74, [], e_spec_MakeEdition)], loop := fun _ => none, cut := fun _ => none, deep := fun _ => false }
theorem c_spec_l23Draw : Contract Try.prog 226 e_spec_l23Draw.sig e_spec_l23Draw.F :=
  den_is (E := v_spec_l23Draw) ⟨tab_ti, tab_eq⟩ (fns_cons c_spec_l23Lists (fns_cons c_spec_l1Below (fns_cons c_spec_l23Hidden (fns_cons c_spec_MakeEdition (fns_nil _))))) mixed Try.func226 (by kernel_rfl) (by kernel_rfl) (fun x => by kernel_rfl)

def s_spec_l4Raw : Sig := { params := [.ioptr y251], res := [.val false y3] }
noncomputable def e_spec_l4Raw : Entry := ⟨s_spec_l4Raw, fun a => D.spec_l4Raw a⟩
noncomputable def v_spec_l4Raw : Env := { ti := look tab, Γ := fns [(171, [], e_spec_l1Int)], loop := fun _ => none, cut := fun _ => none, deep := fun _ => false }
theorem c_spec_l4Raw : Contract Try.prog 227 e_spec_l4Raw.sig e_spec_l4Raw.F :=
  den_is (E := v_spec_l4Raw) ⟨tab_ti, tab_eq⟩ (fns_cons c_spec_l1Int (fns_nil _)) mixed Try.func227 (by kernel_rfl) (by kernel_rfl) (fun x => by kernel_rfl)

def s_spec_l23Any : Sig := { params := [.ioptr y251], res := [.row 139 y139 false, .val false y3, .val false y3, .row 93 y93 false], rgroups := [some 4] }
noncomputable def e_spec_l23Any : Entry := ⟨s_spec_l23Any, fun a => D.spec_l23Any a⟩
noncomputable def v_spec_l23Any : Env := { ti := look tab, Γ := fns [(226, [], e_spec_l23Draw), (221, [], e_spec_l1Below), (227, [], e_spec_l4Raw), (171, [], e_spec_l1Int), (123, [], e_spec_l15Copy), (223, [], e_spec_l4Draw)], loop := fun _ => none, cut := fun _ => none, deep := fun _ => false }
theorem c_spec_l23Any : Contract Try.prog 176 e_spec_l23Any.sig e_spec_l23Any.F :=
  den_is (E := v_spec_l23Any) ⟨tab_ti, tab_eq⟩ (fns_cons c_spec_l23Draw (fns_cons c_spec_l1Below (fns_cons c_spec_l4Raw (fns_cons c_spec_l1Int (fns_cons c_spec_l15Copy (fns_cons c_spec_l4Draw (fns_nil _))))))) mixed Try.func176 (by kernel_rfl) (by kernel_rfl) (fun x => by kernel_rfl)

def s_spec_l23Copy : Sig := { params := [.val true y75], res := [.row 139 y139 true, .val false y3, .val false y3, .row 93 y93 false], rgroups := [some 4] }
noncomputable def e_spec_l23Copy : Entry := ⟨s_spec_l23Copy, fun a => D.spec_l23Copy a⟩
noncomputable def v_spec_l23Copy : Env := { ti := look tab, Γ := fns [(123, [], e_spec_l15Copy)], loop := fun _ => none, cut := fun _ => none, deep := fun _ => false }
theorem c_spec_l23Copy : Contract Try.prog 178 e_spec_l23Copy.sig e_spec_l23Copy.F :=
  den_is (E := v_spec_l23Copy) ⟨tab_ti, tab_eq⟩ (fns_cons c_spec_l15Copy (fns_nil _)) mixed Try.func178 (by kernel_rfl) (by kernel_rfl) (fun x => by kernel_rfl)

def s_spec_DrawEqualEditions : Sig := { params := [.val false y131], res := [.val true y75, .val true y75] }
noncomputable def e_spec_DrawEqualEditions : Entry := ⟨s_spec_DrawEqualEditions, fun a => D.spec_DrawEqualEditions a⟩
noncomputable def v_spec_DrawEqualEditions : Env := { ti := look tab, Γ := fns [(168, [], e_spec_l1New), (176, [], e_spec_l23Any), (177, [], e_spec_l1Once), (178, [], e_spec_l23Copy)], loop := fun _ => none, cut := fun _ => none, deep := fun _ => false }
theorem c_spec_DrawEqualEditions : Contract Try.prog 95 e_spec_DrawEqualEditions.sig e_spec_DrawEqualEditions.F :=
  den_is (E := v_spec_DrawEqualEditions) ⟨tab_ti, tab_eq⟩ (fns_cons c_spec_l1New (fns_cons c_spec_l23Any (fns_cons c_spec_l1Once (fns_cons c_spec_l23Copy (fns_nil _))))) mixed Try.func95 (by kernel_rfl) (by kernel_rfl) (fun x => by kernel_rfl)

def s_spec_DrawIsEdition : Sig := { params := [.val false y131], res := [.row 139 y139 false, .val false y3, .val false y3, .row 93 y93 false], rgroups := [some 4] }
noncomputable def e_spec_DrawIsEdition : Entry := ⟨s_spec_DrawIsEdition, fun a => D.spec_DrawIsEdition a⟩
noncomputable def v_spec_DrawIsEdition : Env := { ti := look tab, Γ := fns [(168, [], e_spec_l1New), (176, [], e_spec_l23Any)], loop := fun _ => none, cut := fun _ => none, deep := fun _ => false }
theorem c_spec_DrawIsEdition : Contract Try.prog 179 e_spec_DrawIsEdition.sig e_spec_DrawIsEdition.F :=
  den_is (E := v_spec_DrawIsEdition) ⟨tab_ti, tab_eq⟩ (fns_cons c_spec_l1New (fns_cons c_spec_l23Any (fns_nil _))) mixed Try.func179 (by kernel_rfl) (by kernel_rfl) (fun x => by kernel_rfl)

def s_spec_DrawEditionInts : Sig := { params := [.val false y131], res := [.row 139 y139 false, .val false y3, .val false y3, .row 93 y93 false], rgroups := [some 4] }
noncomputable def e_spec_DrawEditionInts : Entry := ⟨s_spec_DrawEditionInts, fun a => D.spec_DrawEditionInts a⟩
noncomputable def v_spec_DrawEditionInts : Env := { ti := look tab, Γ := fns [(179, [], e_spec_DrawIsEdition)], loop := fun _ => none, cut := fun _ => none, deep := fun _ => false }
theorem c_spec_DrawEditionInts : Contract Try.prog 96 e_spec_DrawEditionInts.sig e_spec_DrawEditionInts.F :=
  den_is (E := v_spec_DrawEditionInts) ⟨tab_ti, tab_eq⟩ (fns_cons c_spec_DrawIsEdition (fns_nil _)) mixed Try.func96 (by kernel_rfl) (by kernel_rfl) (fun x => by kernel_rfl)

def s_slices_Equal_Address : Sig := { params := [.val false y73, .val false y73], res := [.val false y4] }
noncomputable def e_slices_Equal_Address : Entry := ⟨s_slices_Equal_Address, fun a => D.slices_Equal_Address a.1 a.2⟩
noncomputable def v_slices_Equal_Address : Env := { ti := look tab, Γ := fns [], loop := fun b => match b with | 0 => some [.slot 13 (.int .i64)] | _ => none, cut := fun _ => none, deep := fun _ => false }
theorem c_slices_Equal_Address : Contract Try.prog 180 e_slices_Equal_Address.sig e_slices_Equal_Address.F :=
  den_is (E := v_slices_Equal_Address) ⟨tab_ti, tab_eq⟩ (fns_nil _) mixed Try.func180 (by kernel_rfl) (by kernel_rfl) (fun x => by kernel_rfl)

def s_impl_EqualEditions : Sig := { params := [.val true y75, .val true y75], res := [.val false y4] }
noncomputable def e_impl_EqualEditions : Entry := ⟨s_impl_EqualEditions, fun a => D.impl_EqualEditions a.1 a.2⟩
noncomputable def v_impl_EqualEditions : Env := { ti := look tab, Γ := fns [(93, [], e_impl_EqualCaptures), (180, [], e_slices_Equal_Address)], loop := fun _ => none, cut := fun _ => none, deep := fun _ => false }
theorem c_impl_EqualEditions : Contract Try.prog 97 e_impl_EqualEditions.sig e_impl_EqualEditions.F :=
  den_is (E := v_impl_EqualEditions) ⟨tab_ti, tab_eq⟩ (fns_cons c_impl_EqualCaptures (fns_cons c_slices_Equal_Address (fns_nil _))) mixed Try.func97 (by kernel_rfl) (by kernel_rfl) (fun x => by kernel_rfl)

def s_impl_ResourceInts : Sig := { params := [.val true y137], res := [.row 3 y3 false] }
noncomputable def e_impl_ResourceInts : Entry := ⟨s_impl_ResourceInts, fun a => D.impl_ResourceInts a⟩
noncomputable def v_impl_ResourceInts : Env := { ti := look tab, Γ := fns [], loop := fun _ => none, cut := fun _ => none, deep := fun _ => false }
theorem c_impl_ResourceInts : Contract Try.prog 208 e_impl_ResourceInts.sig e_impl_ResourceInts.F :=
  den_is (E := v_impl_ResourceInts) ⟨tab_ti, tab_eq⟩ (fns_nil _) mixed Try.func208 (by kernel_rfl) (by kernel_rfl) (fun x => by kernel_rfl)

def s_impl_CaptureInts : Sig := { params := [.val true y139], res := [.row 3 y3 false] }
noncomputable def e_impl_CaptureInts : Entry := ⟨s_impl_CaptureInts, fun a => D.impl_CaptureInts a⟩
noncomputable def v_impl_CaptureInts : Env := { ti := look tab, Γ := fns [(208, [], e_impl_ResourceInts)], loop := fun _ => none, cut := fun _ => none, deep := fun _ => false }
theorem c_impl_CaptureInts : Contract Try.prog 133 e_impl_CaptureInts.sig e_impl_CaptureInts.F :=
  den_is (E := v_impl_CaptureInts) ⟨tab_ti, tab_eq⟩ (fns_cons c_impl_ResourceInts (fns_nil _)) mixed Try.func133 (by kernel_rfl) (by kernel_rfl) (fun x => by kernel_rfl)

def s_impl_EditionInts : Sig := { params := [.val true y75], res := [.row 3 y3 false] }
noncomputable def e_impl_EditionInts : Entry := ⟨s_impl_EditionInts, fun a => D.impl_EditionInts a⟩
noncomputable def v_impl_EditionInts : Env := { ti := look tab, Γ := fns [(133, [], e_impl_CaptureInts)], loop := fun b => match b with | 0 => some [.slot 3 (.own 3 y3 false), .slot 14 (.int .i64)] | _ => none, cut := fun _ => none, deep := fun _ => false }
theorem c_impl_EditionInts : Contract Try.prog 54 e_impl_EditionInts.sig e_impl_EditionInts.F :=
  den_is (E := v_impl_EditionInts) ⟨tab_ti, tab_eq⟩ (fns_cons c_impl_CaptureInts (fns_nil _)) mixed Try.func54 (by kernel_rfl) (by kernel_rfl) (fun x => by kernel_rfl)

def s_laws_FnEditions : Sig := { params := [.val false y131], res := [.val false y4] }
noncomputable def e_laws_FnEditions : Entry := ⟨s_laws_FnEditions, fun a => D.laws_FnEditions a⟩
noncomputable def v_laws_FnEditions : Env := { ti := look tab, Γ := fns [(90, [], e_laws_big), (91, [], e_spec_DrawMakeEdition), (77, [], e_impl_MakeEdition), (92, [], e_impl_IsEdition), (93, [], e_impl_EqualCaptures), (94, [], e_impl_AgreeOutside), (95, [], e_spec_DrawEqualEditions), (96, [], e_spec_DrawEditionInts), (97, [], e_impl_EqualEditions), (54, [], e_impl_EditionInts)], loop := fun b => match b with | 0 => some [.slot 9 (.int .i64)] | 2 => some [.slot 10 (.int .i64)] | 4 => some [.slot 12 (.bool), .slot 13 (.int .i64)] | 6 => some [.slot 14 (.bool), .slot 15 (.int .i64)] | _ => none, cut := fun _ => none, deep := fun _ => false }
theorem c_laws_FnEditions : Contract Try.prog 12 e_laws_FnEditions.sig e_laws_FnEditions.F :=
  den_is (E := v_laws_FnEditions) ⟨tab_ti, tab_eq⟩ (fns_cons c_laws_big (fns_cons c_spec_DrawMakeEdition (fns_cons c_impl_MakeEdition (fns_cons c_impl_IsEdition (fns_cons c_impl_EqualCaptures (fns_cons c_impl_AgreeOutside (fns_cons c_spec_DrawEqualEditions (fns_cons c_spec_DrawEditionInts (fns_cons c_impl_EqualEditions (fns_cons c_impl_EditionInts (fns_nil _))))))))))) mixed Try.func12 (by kernel_rfl) (by kernel_rfl) (fun x => by kernel_rfl)

theorem law_true (a : Tup (s_laws_FnEditions.params.map PTy.den)) (hok : argsOk Try.prog s_laws_FnEditions.params a) : D.laws_FnEditions a = some true := D.FnEditions_true a (Ty.ok_bd (P := Try.prog) (t := y131) (by kernel_rfl) hok.1)
theorem lifted (os : Os) (started : os.Started) (H : Type) (enc : TypeId × Value → H) :
    ReturnsInHanded {} Try.checked os 12 .any (Rows.fnEditionsSpec.pre6 enc Try.prog Try.f12 Rows.fnEditionsRow.domain false) (Rows.fnEditionsSpec.post enc Try.prog Try.f12 false true false false) := by
  refine returnsInHanded_of_change_sized (C := Try.checked) (by kernel_rfl) started (by kernel_rfl) Try.func12
    (ChangeSpec.witness6 (enc := enc) (C := Try.checked) false ⟨#[], #[.slice none 0 0], []⟩ 8 (by kernel_rfl) (by kernel_rfl) (by kernel_rfl) (by kernel_rfl)) ?_
  intro W base args ds gs before hval hW hcnd hsz _
  exact law_row (C := Try.checked) rfl c_laws_FnEditions (N := 8) (by kernel_rfl) (tb := 4) (by kernel_rfl) (by kernel_rfl) (by kernel_rfl) (by kernel_rfl) rfl
    (fun ds h => by
      have h : ds.length = 1 := h
      match ds, h with
      | [d0], _ => rfl)
    bulky_sizeOf (small := fun _ => True) (fun a ds hok _ _ => ⟨_, law_true a hok, rfl⟩) hval hW hsz trivial

theorem over : Rows.fnEditionsRow.holds Try.pinned (OpenSpec.ofChange Rows.fnEditionsSpec) :=
  OpenClaim.holds_of_wide 12 Try.f12 rfl rfl rfl rfl rfl rfl rfl ⟨rfl, rfl, rfl, rfl, rfl⟩ rfl rfl rfl rfl rfl (by kernel_rfl) Try.func12 (by kernel_rfl)
    (of_decide_eq_true (by kernel_rfl)) (by unfold Func.isWrapper; first | (rw [if_pos (by decide +kernel)]; kernel_rfl) | (rw [if_neg (by decide +kernel)]; exact ⟨rfl, rfl⟩))
    (fun os started H enc _ => lifted os started H enc)
end Go.Proofs.Ythmpjemfgejccaa.SxFnEditions
namespace Go.Proofs.Ythmpjemfgejccaa
theorem fnEditions_holds : Rows.FnEditionsSaid := SxFnEditions.over
end Go.Proofs.Ythmpjemfgejccaa
