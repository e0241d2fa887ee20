/- FnRedacted returns true for every input, and each input reads as it did. No condition. -/
import Derived.Test.YtomfcmpdjfdnhaaRows
import Derived.Test.YtomfcmpdjfdnhaaPuFnRedacted
import Derived.WalkKit
import Derived.ProofKit
import Derived.ShutString
import Derived.SizedLaws
set_option linter.unusedVariables false
set_option maxRecDepth 100000
set_option maxHeartbeats 4000000
namespace Go.Proofs.Ytomfcmpdjfdnhaa.SxFnRedacted
open Go Go.Sh Go.RowKit
def y3 : Ty := .int .i64
def y4 : Ty := .bool
def y5 : Ty := .int .u8
def y22 : Ty := .slice 3 y3
def y51 : Ty := .slice 5 y5
def y99 : Ty := .pair y3 (.pair y3 (.pair y4 y3))
def y90 : Ty := .slice 99 y99
def y167 : Ty := .pair y51 (.pair y3 y3)
def tab : List (TypeId × TI) := [(3, { size := 1, bytes := 8, agg := false, ty := some y3 }),
  (4, { size := 1, bytes := 1, agg := false, ty := some y4 }),
  (5, { size := 1, bytes := 1, agg := false, ty := some y5 }),
  (22, { size := 1, bytes := 24, agg := false, ty := some y22, elem := some 3 }),
  (51, { size := 1, bytes := 24, agg := false, ty := some y51, elem := some 5 }),
  (99, { size := 4, bytes := 32, agg := true, ty := some y99, fields := [(0, 3), (1, 3), (2, 4), (3, 3)], eq := true }),
  (90, { size := 1, bytes := 24, agg := false, ty := some y90, elem := some 99 }),
  (167, { size := 3, bytes := 40, agg := true, ty := some y167, fields := [(0, 51), (1, 3), (2, 3)] })]
def look : List (TypeId × TI) → TypeId → Option TI
  | [], _ => none
  | (k, i) :: r, t => if Nat.beq t k = true then some i else look r t
theorem look_ok {P : Program} : ∀ {l : List (TypeId × TI)}, (l.all fun p => tiOk P p.1 p.2) = true → ∀ t i, look l t = some i → tiOk P t i = true
  | [], _, t, i, h => by simp [look] at h
  | (k, j) :: r, h0, t, i, h => by
    simp only [List.all_cons, Bool.and_eq_true] at h0
    simp only [look] at h
    split at h
    · rename_i hk
      simp only [Option.some.injEq] at h
      have := Nat.eq_of_beq_eq_true hk
      subst this; subst h; exact h0.1
    · exact look_ok h0.2 t i h
theorem look_eq {P : Program} : ∀ {l : List (TypeId × TI)}, (l.all fun p => !p.2.eq || eqTop P p.1 p.2.ty) = true → ∀ t i, look l t = some i → i.eq = true → ∀ ty, i.ty = some ty → EqLaw P t ty.zero
  | [], _, t, i, h => by simp [look] at h
  | (k, j) :: r, h0, t, i, h => by
    simp only [List.all_cons, Bool.and_eq_true, Bool.or_eq_true, Bool.not_eq_true'] at h0
    simp only [look] at h
    split at h
    · rename_i hk
      simp only [Option.some.injEq] at h
      have := Nat.eq_of_beq_eq_true hk
      subst this; subst h
      intro he
      exact eqLaw_of (h0.1.resolve_left (by simp [he]))
    · exact look_eq h0.2 t i h
def same : List Nat → List Nat → Bool
  | [], [] => true
  | a :: x, b :: y => Nat.beq a b && same x y
  | _, _ => false
theorem same_eq : ∀ {x y : List Nat}, same x y = true → x = y
  | [], [], _ => rfl
  | a :: x, b :: y, h => by
    simp only [same, Bool.and_eq_true] at h
    rw [Nat.eq_of_beq_eq_true h.1, same_eq h.2]
  | [], _ :: _, h => by simp [same] at h
  | _ :: _, [], h => by simp [same] at h
def fns : List (FuncId × List FuncId × Entry) → FuncId → List FuncId → Option Entry
  | [], _, _ => none
  | (k, c, e) :: r, f, fs => if (Nat.beq f k && same fs c) = true then some e else fns r f fs
theorem fns_nil (P : Program) : ∀ f fs en, fns [] f fs = some en → Contract P f en.sig en.F := fun f fs en h => by simp [fns] at h
theorem fns_cons {P : Program} {k : FuncId} {c : List FuncId} {e : Entry} {r : List (FuncId × List FuncId × Entry)} (hk : Contract P k e.sig e.F) (hr : ∀ f fs en, fns r f fs = some en → Contract P f en.sig en.F) : ∀ f fs en, fns ((k, c, e) :: r) f fs = some en → Contract P f en.sig en.F := fun f fs en h => by
  simp only [fns] at h
  split at h
  · rename_i hf
    simp only [Bool.and_eq_true] at hf
    simp only [Option.some.injEq] at h
    have := Nat.eq_of_beq_eq_true hf.1
    subst this; subst h; exact hk
  · exact hr f fs en h

theorem tab_ti : ∀ t i, look tab t = some i → tiOk Try.prog t i = true := look_ok (by kernel_rfl)
theorem tab_eq : ∀ t i, look tab t = some i → i.eq = true → ∀ ty, i.ty = some ty → EqLaw Try.prog t ty.zero := look_eq (by kernel_rfl)
theorem mixed : Try.prog.follows .mixedOrders = true := by kernel_rfl
def s_laws_big : Sig := { params := [.val false y51], res := [.val false y4] }
noncomputable def e_laws_big : Entry := ⟨s_laws_big, fun a => D.laws_big a⟩
noncomputable def v_laws_big : Env := { ti := look tab, Γ := fns [], loop := fun _ => none, cut := fun _ => none, deep := fun _ => false }
theorem c_laws_big : Contract Try.prog 29 e_laws_big.sig e_laws_big.F :=
  den_is (E := v_laws_big) ⟨tab_ti, tab_eq⟩ (fns_nil _) mixed Try.func29 (by kernel_rfl) (by kernel_rfl) (fun x => by kernel_rfl)

def s_spec_l1New : Sig := { params := [.val false y51], res := [.ptr y167] }
noncomputable def e_spec_l1New : Entry := ⟨s_spec_l1New, fun a => D.spec_l1New a⟩
noncomputable def v_spec_l1New : Env := { ti := look tab, Γ := fns [], loop := fun b => match b with | 0 => some [.slot 3 (.int .i64), .slot 4 (.int .i64)] | _ => none, cut := fun _ => none, deep := fun _ => false }
theorem c_spec_l1New : Contract Try.prog 89 e_spec_l1New.sig e_spec_l1New.F :=
  den_is (E := v_spec_l1New) ⟨tab_ti, tab_eq⟩ (fns_nil _) mixed Try.func89 (by kernel_rfl) (by kernel_rfl) (fun x => by kernel_rfl)

def s_spec_l1Byte : Sig := { params := [.ioptr y167], res := [.val false y3] }
noncomputable def e_spec_l1Byte : Entry := ⟨s_spec_l1Byte, fun a => D.spec_l1Byte a⟩
noncomputable def v_spec_l1Byte : Env := { ti := look tab, Γ := fns [], loop := fun _ => none, cut := fun _ => none, deep := fun _ => false }
theorem c_spec_l1Byte : Contract Try.prog 148 e_spec_l1Byte.sig e_spec_l1Byte.F :=
  den_is (E := v_spec_l1Byte) ⟨tab_ti, tab_eq⟩ (fns_nil _) mixed Try.func148 (by kernel_rfl) (by kernel_rfl) (fun x => by kernel_rfl)

def s_spec_l1Below : Sig := { params := [.ioptr y167, .val false y3], res := [.val false y3] }
noncomputable def e_spec_l1Below : Entry := ⟨s_spec_l1Below, fun a => D.spec_l1Below a.1 a.2⟩
noncomputable def v_spec_l1Below : Env := { ti := look tab, Γ := fns [(148, [], e_spec_l1Byte)], loop := fun _ => none, cut := fun _ => none, deep := fun _ => false }
theorem c_spec_l1Below : Contract Try.prog 91 e_spec_l1Below.sig e_spec_l1Below.F :=
  den_is (E := v_spec_l1Below) ⟨tab_ti, tab_eq⟩ (fns_cons c_spec_l1Byte (fns_nil _)) mixed Try.func91 (by kernel_rfl) (by kernel_rfl) (fun x => by kernel_rfl)

def s_spec_l5Body : Sig := { params := [.ioptr y167], res := [.row 3 y3 false] }
noncomputable def e_spec_l5Body : Entry := ⟨s_spec_l5Body, fun a => D.spec_l5Body a⟩
noncomputable def v_spec_l5Body : Env := { ti := look tab, Γ := fns [(91, [], e_spec_l1Below)], loop := fun b => match b with | 0 => some [.slot 3 (.own 3 y3 false), .slot 4 (.int .i64), .box 0 [.ro 5 y5, .int .i64, .int .i64]] | _ => none, cut := fun _ => none, deep := fun _ => false }
theorem c_spec_l5Body : Contract Try.prog 128 e_spec_l5Body.sig e_spec_l5Body.F :=
  den_is (E := v_spec_l5Body) ⟨tab_ti, tab_eq⟩ (fns_cons c_spec_l1Below (fns_nil _)) mixed Try.func128 (by kernel_rfl) (by kernel_rfl) (fun x => by kernel_rfl)

def s_spec_l1In : Sig := { params := [.val false y3, .val false y3, .val false y3], res := [.val false y4] }
noncomputable def e_spec_l1In : Entry := ⟨s_spec_l1In, fun a => D.spec_l1In a.1 a.2.1 a.2.2⟩
noncomputable def v_spec_l1In : Env := { ti := look tab, Γ := fns [], loop := fun _ => none, cut := fun _ => none, deep := fun _ => false }
theorem c_spec_l1In : Contract Try.prog 137 e_spec_l1In.sig e_spec_l1In.F :=
  den_is (E := v_spec_l1In) ⟨tab_ti, tab_eq⟩ (fns_nil _) mixed Try.func137 (by kernel_rfl) (by kernel_rfl) (fun x => by kernel_rfl)

def s_spec_l5Bytes : Sig := { params := [.val false y22], res := [.val false y4] }
noncomputable def e_spec_l5Bytes : Entry := ⟨s_spec_l5Bytes, fun a => D.spec_l5Bytes a⟩
noncomputable def v_spec_l5Bytes : Env := { ti := look tab, Γ := fns [(137, [], e_spec_l1In)], loop := fun b => match b with | 0 => some [.slot 3 (.int .i64)] | _ => none, cut := fun _ => none, deep := fun _ => false }
theorem c_spec_l5Bytes : Contract Try.prog 184 e_spec_l5Bytes.sig e_spec_l5Bytes.F :=
  den_is (E := v_spec_l5Bytes) ⟨tab_ti, tab_eq⟩ (fns_cons c_spec_l1In (fns_nil _)) mixed Try.func184 (by kernel_rfl) (by kernel_rfl) (fun x => by kernel_rfl)

def s_spec_Mod : Sig := { params := [.val false y3, .val false y3], res := [.val false y3] }
noncomputable def e_spec_Mod : Entry := ⟨s_spec_Mod, fun a => D.spec_Mod a.1 a.2⟩
noncomputable def v_spec_Mod : Env := { ti := look tab, Γ := fns [(137, [], e_spec_l1In)], loop := fun _ => none, cut := fun _ => none, deep := fun _ => false }
theorem c_spec_Mod : Contract Try.prog 152 e_spec_Mod.sig e_spec_Mod.F :=
  den_is (E := v_spec_Mod) ⟨tab_ti, tab_eq⟩ (fns_cons c_spec_l1In (fns_nil _)) mixed Try.func152 (by kernel_rfl) (by kernel_rfl) (fun x => by kernel_rfl)

def s_spec_Hash : Sig := { params := [.val false y22], res := [.val false y3] }
noncomputable def e_spec_Hash : Entry := ⟨s_spec_Hash, fun a => D.spec_Hash a⟩
noncomputable def v_spec_Hash : Env := { ti := look tab, Γ := fns [(152, [], e_spec_Mod)], loop := fun b => match b with | 0 => some [.slot 3 (.int .i64), .slot 4 (.int .i64)] | _ => none, cut := fun _ => none, deep := fun _ => false }
theorem c_spec_Hash : Contract Try.prog 153 e_spec_Hash.sig e_spec_Hash.F :=
  den_is (E := v_spec_Hash) ⟨tab_ti, tab_eq⟩ (fns_cons c_spec_Mod (fns_nil _)) mixed Try.func153 (by kernel_rfl) (by kernel_rfl) (fun x => by kernel_rfl)

def s_spec_SealBody : Sig := { params := [.val false y22, .val false y3], res := [.row 99 y99 false] }
noncomputable def e_spec_SealBody : Entry := ⟨s_spec_SealBody, fun a => D.spec_SealBody a.1 a.2⟩
noncomputable def v_spec_SealBody : Env := { ti := look tab, Γ := fns [(184, [], e_spec_l5Bytes), (137, [], e_spec_l1In), (153, [], e_spec_Hash)], loop := fun b => match b with | 0 => some [.slot 5 (.own 99 y99 false), .slot 6 (.int .i64)] | _ => none, cut := fun _ => none, deep := fun _ => false }
theorem c_spec_SealBody : Contract Try.prog 165 e_spec_SealBody.sig e_spec_SealBody.F :=
  den_is (E := v_spec_SealBody) ⟨tab_ti, tab_eq⟩ (fns_cons c_spec_l5Bytes (fns_cons c_spec_l1In (fns_cons c_spec_Hash (fns_nil _)))) mixed Try.func165 (by kernel_rfl) (by kernel_rfl) (fun x => by kernel_rfl)

def s_spec_l22At : Sig := { params := [.ioptr y167], res := [.row 3 y3 false] }
noncomputable def e_spec_l22At : Entry := ⟨s_spec_l22At, fun a => D.spec_l22At a⟩
noncomputable def v_spec_l22At : Env := { ti := look tab, Γ := fns [(91, [], e_spec_l1Below)], loop := fun b => match b with | 0 => some [.slot 3 (.own 3 y3 false), .slot 4 (.int .i64), .box 0 [.ro 5 y5, .int .i64, .int .i64]] | _ => none, cut := fun _ => none, deep := fun _ => false }
theorem c_spec_l22At : Contract Try.prog 118 e_spec_l22At.sig e_spec_l22At.F :=
  den_is (E := v_spec_l22At) ⟨tab_ti, tab_eq⟩ (fns_cons c_spec_l1Below (fns_nil _)) mixed Try.func118 (by kernel_rfl) (by kernel_rfl) (fun x => by kernel_rfl)

def s_spec_HideLeaves : Sig := { params := [.val false y90, .val false y22], res := [.row 99 y99 false] }
noncomputable def e_spec_HideLeaves : Entry := ⟨s_spec_HideLeaves, fun a => D.spec_HideLeaves a.1 a.2⟩
noncomputable def v_spec_HideLeaves : Env := { ti := look tab, Γ := fns [(137, [], e_spec_l1In)], loop := fun b => match b with | 0 => some [.slot 6 (.int .i64), .vec 5 99 y99 false] | _ => none, cut := fun _ => none, deep := fun _ => false }
theorem c_spec_HideLeaves : Contract Try.prog 127 e_spec_HideLeaves.sig e_spec_HideLeaves.F :=
  den_is (E := v_spec_HideLeaves) ⟨tab_ti, tab_eq⟩ (fns_cons c_spec_l1In (fns_nil _)) mixed Try.func127 (by kernel_rfl) (by kernel_rfl) (fun x => by kernel_rfl)

def s_spec_l22Draw : Sig := { params := [.ioptr y167], res := [.row 99 y99 false] }
noncomputable def e_spec_l22Draw : Entry := ⟨s_spec_l22Draw, fun a => D.spec_l22Draw a⟩
noncomputable def v_spec_l22Draw : Env := { ti := look tab, Γ := fns [(128, [], e_spec_l5Body), (91, [], e_spec_l1Below), (165, [], e_spec_SealBody), (118, [], e_spec_l22At), (127, [], e_spec_HideLeaves)], loop := fun _ => none, cut := fun _ => none, deep := fun _ => false }
theorem c_spec_l22Draw : Contract Try.prog 126 e_spec_l22Draw.sig e_spec_l22Draw.F :=
  den_is (E := v_spec_l22Draw) ⟨tab_ti, tab_eq⟩ (fns_cons c_spec_l5Body (fns_cons c_spec_l1Below (fns_cons c_spec_SealBody (fns_cons c_spec_l22At (fns_cons c_spec_HideLeaves (fns_nil _)))))) mixed Try.func126 (by kernel_rfl) (by kernel_rfl) (fun x => by kernel_rfl)

def s_spec_l22Any : Sig := { params := [.ioptr y167], res := [.row 99 y99 false] }
noncomputable def e_spec_l22Any : Entry := ⟨s_spec_l22Any, fun a => D.spec_l22Any a⟩
noncomputable def v_spec_l22Any : Env := { ti := look tab, Γ := fns [(126, [], e_spec_l22Draw), (91, [], e_spec_l1Below)], loop := fun _ => none, cut := fun _ => none, deep := fun _ => false }
theorem c_spec_l22Any : Contract Try.prog 117 e_spec_l22Any.sig e_spec_l22Any.F :=
  den_is (E := v_spec_l22Any) ⟨tab_ti, tab_eq⟩ (fns_cons c_spec_l22Draw (fns_cons c_spec_l1Below (fns_nil _))) mixed Try.func117 (by kernel_rfl) (by kernel_rfl) (fun x => by kernel_rfl)

def s_spec_DrawHideLeaves : Sig := { params := [.val false y51], res := [.row 99 y99 false, .row 3 y3 false] }
noncomputable def e_spec_DrawHideLeaves : Entry := ⟨s_spec_DrawHideLeaves, fun a => D.spec_DrawHideLeaves a⟩
noncomputable def v_spec_DrawHideLeaves : Env := { ti := look tab, Γ := fns [(89, [], e_spec_l1New), (117, [], e_spec_l22Any), (118, [], e_spec_l22At)], loop := fun _ => none, cut := fun _ => none, deep := fun _ => false }
theorem c_spec_DrawHideLeaves : Contract Try.prog 56 e_spec_DrawHideLeaves.sig e_spec_DrawHideLeaves.F :=
  den_is (E := v_spec_DrawHideLeaves) ⟨tab_ti, tab_eq⟩ (fns_cons c_spec_l1New (fns_cons c_spec_l22Any (fns_cons c_spec_l22At (fns_nil _)))) mixed Try.func56 (by kernel_rfl) (by kernel_rfl) (fun x => by kernel_rfl)

def s_slices_Clone_Leaf : Sig := { params := [.val false y90], res := [.row 99 y99 false] }
noncomputable def e_slices_Clone_Leaf : Entry := ⟨s_slices_Clone_Leaf, fun a => D.slices_Clone_Leaf a⟩
noncomputable def v_slices_Clone_Leaf : Env := { ti := look tab, Γ := fns [], loop := fun _ => none, cut := fun _ => none, deep := fun _ => false }
theorem c_slices_Clone_Leaf : Contract Try.prog 119 e_slices_Clone_Leaf.sig e_slices_Clone_Leaf.F :=
  den_is (E := v_slices_Clone_Leaf) ⟨tab_ti, tab_eq⟩ (fns_nil _) mixed Try.func119 (by kernel_rfl) (by kernel_rfl) (fun x => by kernel_rfl)

def s_impl_HideLeaves : Sig := { params := [.val false y90, .val false y22], res := [.row 99 y99 false] }
noncomputable def e_impl_HideLeaves : Entry := ⟨s_impl_HideLeaves, fun a => D.impl_HideLeaves a.1 a.2⟩
noncomputable def v_impl_HideLeaves : Env := { ti := look tab, Γ := fns [(119, [], e_slices_Clone_Leaf)], loop := fun b => match b with | 0 => some [.slot 12 (.int .i64), .vec 5 99 y99 false] | _ => none, cut := fun _ => none, deep := fun _ => false }
theorem c_impl_HideLeaves : Contract Try.prog 57 e_impl_HideLeaves.sig e_impl_HideLeaves.F :=
  den_is (E := v_impl_HideLeaves) ⟨tab_ti, tab_eq⟩ (fns_cons c_slices_Clone_Leaf (fns_nil _)) mixed Try.func57 (by kernel_rfl) (by kernel_rfl) (fun x => by kernel_rfl)

def s_impl_InRange : Sig := { params := [.val false y3, .val false y3, .val false y3], res := [.val false y4] }
noncomputable def e_impl_InRange : Entry := ⟨s_impl_InRange, fun a => D.impl_InRange a.1 a.2.1 a.2.2⟩
noncomputable def v_impl_InRange : Env := { ti := look tab, Γ := fns [], loop := fun _ => none, cut := fun _ => none, deep := fun _ => false }
theorem c_impl_InRange : Contract Try.prog 122 e_impl_InRange.sig e_impl_InRange.F :=
  den_is (E := v_impl_InRange) ⟨tab_ti, tab_eq⟩ (fns_nil _) mixed Try.func122 (by kernel_rfl) (by kernel_rfl) (fun x => by kernel_rfl)

def s_impl_Mod : Sig := { params := [.val false y3, .val false y3], res := [.val false y3] }
noncomputable def e_impl_Mod : Entry := ⟨s_impl_Mod, fun a => D.impl_Mod a.1 a.2⟩
noncomputable def v_impl_Mod : Env := { ti := look tab, Γ := fns [(122, [], e_impl_InRange)], loop := fun _ => none, cut := fun _ => none, deep := fun _ => false }
theorem c_impl_Mod : Contract Try.prog 97 e_impl_Mod.sig e_impl_Mod.F :=
  den_is (E := v_impl_Mod) ⟨tab_ti, tab_eq⟩ (fns_cons c_impl_InRange (fns_nil _)) mixed Try.func97 (by kernel_rfl) (by kernel_rfl) (fun x => by kernel_rfl)

def s_impl_Hash : Sig := { params := [.val false y22], res := [.val false y3] }
noncomputable def e_impl_Hash : Entry := ⟨s_impl_Hash, fun a => D.impl_Hash a⟩
noncomputable def v_impl_Hash : Env := { ti := look tab, Γ := fns [(97, [], e_impl_Mod)], loop := fun b => match b with | 0 => some [.slot 3 (.int .i64), .slot 8 (.int .i64)] | _ => none, cut := fun _ => none, deep := fun _ => false }
theorem c_impl_Hash : Contract Try.prog 98 e_impl_Hash.sig e_impl_Hash.F :=
  den_is (E := v_impl_Hash) ⟨tab_ti, tab_eq⟩ (fns_cons c_impl_Mod (fns_nil _)) mixed Try.func98 (by kernel_rfl) (by kernel_rfl) (fun x => by kernel_rfl)

def s_impl_AreLeaves_1 : Sig := { params := [.val true y99], res := [.val false y4] }
noncomputable def e_impl_AreLeaves_1 : Entry := ⟨s_impl_AreLeaves_1, fun a => D.impl_AreLeaves_1 a⟩
noncomputable def v_impl_AreLeaves_1 : Env := { ti := look tab, Γ := fns [(122, [], e_impl_InRange), (98, [], e_impl_Hash)], loop := fun _ => none, cut := fun _ => none, deep := fun _ => false }
theorem c_impl_AreLeaves_1 : Contract Try.prog 121 e_impl_AreLeaves_1.sig e_impl_AreLeaves_1.F :=
  den_is (E := v_impl_AreLeaves_1) ⟨tab_ti, tab_eq⟩ (fns_cons c_impl_InRange (fns_cons c_impl_Hash (fns_nil _))) mixed Try.func121 (by kernel_rfl) (by kernel_rfl) (fun x => by kernel_rfl)

def s_slices_IndexFunc_Leaf_impl_AreLeaves_1 : Sig := { params := [.val false y90, .fn 121 []], res := [.val false y3] }
noncomputable def e_slices_IndexFunc_Leaf_impl_AreLeaves_1 : Entry := ⟨s_slices_IndexFunc_Leaf_impl_AreLeaves_1, fun a => D.slices_IndexFunc_Leaf_impl_AreLeaves_1 a.1⟩
noncomputable def v_slices_IndexFunc_Leaf_impl_AreLeaves_1 : Env := { ti := look tab, Γ := fns [(121, [], e_impl_AreLeaves_1)], loop := fun b => match b with | 0 => some [.slot 8 (.int .i64)] | _ => none, cut := fun _ => none, deep := fun _ => false }
theorem c_slices_IndexFunc_Leaf_impl_AreLeaves_1 : Contract Try.prog 164 e_slices_IndexFunc_Leaf_impl_AreLeaves_1.sig e_slices_IndexFunc_Leaf_impl_AreLeaves_1.F :=
  den_is (E := v_slices_IndexFunc_Leaf_impl_AreLeaves_1) ⟨tab_ti, tab_eq⟩ (fns_cons c_impl_AreLeaves_1 (fns_nil _)) mixed Try.func164 (by kernel_rfl) (by kernel_rfl) (fun x => by kernel_rfl)

def s_slices_ContainsFunc_Leaf_impl_AreLeaves_1 : Sig := { params := [.val false y90, .fn 121 []], res := [.val false y4] }
noncomputable def e_slices_ContainsFunc_Leaf_impl_AreLeaves_1 : Entry := ⟨s_slices_ContainsFunc_Leaf_impl_AreLeaves_1, fun a => D.slices_ContainsFunc_Leaf_impl_AreLeaves_1 a.1⟩
noncomputable def v_slices_ContainsFunc_Leaf_impl_AreLeaves_1 : Env := { ti := look tab, Γ := fns [(164, [121], e_slices_IndexFunc_Leaf_impl_AreLeaves_1)], loop := fun _ => none, cut := fun _ => none, deep := fun _ => false }
theorem c_slices_ContainsFunc_Leaf_impl_AreLeaves_1 : Contract Try.prog 120 e_slices_ContainsFunc_Leaf_impl_AreLeaves_1.sig e_slices_ContainsFunc_Leaf_impl_AreLeaves_1.F :=
  den_is (E := v_slices_ContainsFunc_Leaf_impl_AreLeaves_1) ⟨tab_ti, tab_eq⟩ (fns_cons c_slices_IndexFunc_Leaf_impl_AreLeaves_1 (fns_nil _)) mixed Try.func120 (by kernel_rfl) (by kernel_rfl) (fun x => by kernel_rfl)

def s_impl_AreLeaves : Sig := { params := [.val false y90], res := [.val false y4] }
noncomputable def e_impl_AreLeaves : Entry := ⟨s_impl_AreLeaves, fun a => D.impl_AreLeaves a⟩
noncomputable def v_impl_AreLeaves : Env := { ti := look tab, Γ := fns [(120, [121], e_slices_ContainsFunc_Leaf_impl_AreLeaves_1)], loop := fun _ => none, cut := fun _ => none, deep := fun _ => false }
theorem c_impl_AreLeaves : Contract Try.prog 58 e_impl_AreLeaves.sig e_impl_AreLeaves.F :=
  den_is (E := v_impl_AreLeaves) ⟨tab_ti, tab_eq⟩ (fns_cons c_slices_ContainsFunc_Leaf_impl_AreLeaves_1 (fns_nil _)) mixed Try.func58 (by kernel_rfl) (by kernel_rfl) (fun x => by kernel_rfl)

def s_impl_IsRedactionOf_1 : Sig := { params := [.val true y99, .val true y99], res := [.val false y4] }
noncomputable def e_impl_IsRedactionOf_1 : Entry := ⟨s_impl_IsRedactionOf_1, fun a => D.impl_IsRedactionOf_1 a.1 a.2⟩
noncomputable def v_impl_IsRedactionOf_1 : Env := { ti := look tab, Γ := fns [], loop := fun _ => none, cut := fun _ => none, deep := fun _ => false }
theorem c_impl_IsRedactionOf_1 : Contract Try.prog 124 e_impl_IsRedactionOf_1.sig e_impl_IsRedactionOf_1.F :=
  den_is (E := v_impl_IsRedactionOf_1) ⟨tab_ti, tab_eq⟩ (fns_nil _) mixed Try.func124 (by kernel_rfl) (by kernel_rfl) (fun x => by kernel_rfl)

def s_slices_EqualFunc_Leaf_impl_IsRedactionOf_1 : Sig := { params := [.val false y90, .val false y90, .fn 124 []], res := [.val false y4] }
noncomputable def e_slices_EqualFunc_Leaf_impl_IsRedactionOf_1 : Entry := ⟨s_slices_EqualFunc_Leaf_impl_IsRedactionOf_1, fun a => D.slices_EqualFunc_Leaf_impl_IsRedactionOf_1 a.1 a.2.1⟩
noncomputable def v_slices_EqualFunc_Leaf_impl_IsRedactionOf_1 : Env := { ti := look tab, Γ := fns [(124, [], e_impl_IsRedactionOf_1)], loop := fun b => match b with | 0 => some [.slot 17 (.int .i64)] | _ => none, cut := fun _ => none, deep := fun _ => false }
theorem c_slices_EqualFunc_Leaf_impl_IsRedactionOf_1 : Contract Try.prog 123 e_slices_EqualFunc_Leaf_impl_IsRedactionOf_1.sig e_slices_EqualFunc_Leaf_impl_IsRedactionOf_1.F :=
  den_is (E := v_slices_EqualFunc_Leaf_impl_IsRedactionOf_1) ⟨tab_ti, tab_eq⟩ (fns_cons c_impl_IsRedactionOf_1 (fns_nil _)) mixed Try.func123 (by kernel_rfl) (by kernel_rfl) (fun x => by kernel_rfl)

def s_impl_IsRedactionOf : Sig := { params := [.val false y90, .val false y90], res := [.val false y4] }
noncomputable def e_impl_IsRedactionOf : Entry := ⟨s_impl_IsRedactionOf, fun a => D.impl_IsRedactionOf a.1 a.2⟩
noncomputable def v_impl_IsRedactionOf : Env := { ti := look tab, Γ := fns [(58, [], e_impl_AreLeaves), (123, [124], e_slices_EqualFunc_Leaf_impl_IsRedactionOf_1)], loop := fun _ => none, cut := fun _ => none, deep := fun _ => false }
theorem c_impl_IsRedactionOf : Contract Try.prog 59 e_impl_IsRedactionOf.sig e_impl_IsRedactionOf.F :=
  den_is (E := v_impl_IsRedactionOf) ⟨tab_ti, tab_eq⟩ (fns_cons c_impl_AreLeaves (fns_cons c_slices_EqualFunc_Leaf_impl_IsRedactionOf_1 (fns_nil _))) mixed Try.func59 (by kernel_rfl) (by kernel_rfl) (fun x => by kernel_rfl)

def s_impl_RootOf : Sig := { params := [.val false y22], res := [.val false y3] }
noncomputable def e_impl_RootOf : Entry := ⟨s_impl_RootOf, fun a => D.impl_RootOf a⟩
noncomputable def v_impl_RootOf (n : Nat) : Env := { ti := look tab, Γ := fns [(125, [], ⟨s_impl_RootOf, fun a => D.impl_RootOf_f n a⟩), (98, [], e_impl_Hash)], loop := fun _ => none, cut := fun _ => none, deep := fun _ => false }
theorem cf_impl_RootOf : ∀ n : Nat, Contract Try.prog 125 s_impl_RootOf (fun a => D.impl_RootOf_f n a)
  | 0 => ⟨⟨_, Try.func125, by kernel_rfl, by kernel_rfl⟩, fun a out w S lent cx vals hF => by cases hF⟩
  | n + 1 => have ih := cf_impl_RootOf n; den_is (E := v_impl_RootOf n) ⟨tab_ti, tab_eq⟩ (fns_cons ih (fns_cons c_impl_Hash (fns_nil _))) mixed Try.func125 (by kernel_rfl) (by kernel_rfl) (fun x => by kernel_rfl)
theorem c_impl_RootOf : Contract Try.prog 125 e_impl_RootOf.sig e_impl_RootOf.F := ⟨(cf_impl_RootOf 0).1, fun a => (cf_impl_RootOf (a.length + 1)).2 a⟩

def s_impl_SealRoot : Sig := { params := [.val false y90], res := [.val false y3] }
noncomputable def e_impl_SealRoot : Entry := ⟨s_impl_SealRoot, fun a => D.impl_SealRoot a⟩
noncomputable def v_impl_SealRoot : Env := { ti := look tab, Γ := fns [(125, [], e_impl_RootOf)], loop := fun b => match b with | 0 => some [.slot 3 (.own 3 y3 false), .slot 8 (.int .i64)] | _ => none, cut := fun _ => none, deep := fun _ => false }
theorem c_impl_SealRoot : Contract Try.prog 60 e_impl_SealRoot.sig e_impl_SealRoot.F :=
  den_is (E := v_impl_SealRoot) ⟨tab_ti, tab_eq⟩ (fns_cons c_impl_RootOf (fns_nil _)) mixed Try.func60 (by kernel_rfl) (by kernel_rfl) (fun x => by kernel_rfl)

def s_laws_contains : Sig := { params := [.val false y22, .val false y3], res := [.val false y4] }
noncomputable def e_laws_contains : Entry := ⟨s_laws_contains, fun a => D.laws_contains a.1 a.2⟩
noncomputable def v_laws_contains : Env := { ti := look tab, Γ := fns [], loop := fun b => match b with | 0 => some [.slot 5 (.int .i64)] | _ => none, cut := fun _ => none, deep := fun _ => false }
theorem c_laws_contains : Contract Try.prog 61 e_laws_contains.sig e_laws_contains.F :=
  den_is (E := v_laws_contains) ⟨tab_ti, tab_eq⟩ (fns_nil _) mixed Try.func61 (by kernel_rfl) (by kernel_rfl) (fun x => by kernel_rfl)

def s_spec_DrawIsRedactionOf : Sig := { params := [.val false y51], res := [.row 99 y99 false, .row 99 y99 false] }
noncomputable def e_spec_DrawIsRedactionOf : Entry := ⟨s_spec_DrawIsRedactionOf, fun a => D.spec_DrawIsRedactionOf a⟩
noncomputable def v_spec_DrawIsRedactionOf : Env := { ti := look tab, Γ := fns [(89, [], e_spec_l1New), (126, [], e_spec_l22Draw), (118, [], e_spec_l22At), (127, [], e_spec_HideLeaves), (91, [], e_spec_l1Below), (117, [], e_spec_l22Any)], loop := fun _ => none, cut := fun _ => none, deep := fun _ => false }
theorem c_spec_DrawIsRedactionOf : Contract Try.prog 62 e_spec_DrawIsRedactionOf.sig e_spec_DrawIsRedactionOf.F :=
  den_is (E := v_spec_DrawIsRedactionOf) ⟨tab_ti, tab_eq⟩ (fns_cons c_spec_l1New (fns_cons c_spec_l22Draw (fns_cons c_spec_l22At (fns_cons c_spec_HideLeaves (fns_cons c_spec_l1Below (fns_cons c_spec_l22Any (fns_nil _))))))) mixed Try.func62 (by kernel_rfl) (by kernel_rfl) (fun x => by kernel_rfl)

def s_impl_HiddenAt : Sig := { params := [.val false y90], res := [.row 3 y3 false] }
noncomputable def e_impl_HiddenAt : Entry := ⟨s_impl_HiddenAt, fun a => D.impl_HiddenAt a⟩
noncomputable def v_impl_HiddenAt : Env := { ti := look tab, Γ := fns [], loop := fun b => match b with | 0 => some [.slot 3 (.own 3 y3 false), .slot 8 (.int .i64)] | _ => none, cut := fun _ => none, deep := fun _ => false }
theorem c_impl_HiddenAt : Contract Try.prog 64 e_impl_HiddenAt.sig e_impl_HiddenAt.F :=
  den_is (E := v_impl_HiddenAt) ⟨tab_ti, tab_eq⟩ (fns_nil _) mixed Try.func64 (by kernel_rfl) (by kernel_rfl) (fun x => by kernel_rfl)

def s_laws_within : Sig := { params := [.val false y22, .val false y22], res := [.val false y4] }
noncomputable def e_laws_within : Entry := ⟨s_laws_within, fun a => D.laws_within a.1 a.2⟩
noncomputable def v_laws_within : Env := { ti := look tab, Γ := fns [(61, [], e_laws_contains)], loop := fun b => match b with | 0 => some [.slot 5 (.int .i64)] | _ => none, cut := fun _ => none, deep := fun _ => false }
theorem c_laws_within : Contract Try.prog 63 e_laws_within.sig e_laws_within.F :=
  den_is (E := v_laws_within) ⟨tab_ti, tab_eq⟩ (fns_cons c_laws_contains (fns_nil _)) mixed Try.func63 (by kernel_rfl) (by kernel_rfl) (fun x => by kernel_rfl)

def s_spec_l1Once : Sig := { params := [.ioptr y167, .val false y3], res := [.val false y4] }
noncomputable def e_spec_l1Once : Entry := ⟨s_spec_l1Once, fun a => D.spec_l1Once a.1 a.2⟩
noncomputable def v_spec_l1Once : Env := { ti := look tab, Γ := fns [(91, [], e_spec_l1Below)], loop := fun _ => none, cut := fun _ => none, deep := fun _ => false }
theorem c_spec_l1Once : Contract Try.prog 95 e_spec_l1Once.sig e_spec_l1Once.F :=
  den_is (E := v_spec_l1Once) ⟨tab_ti, tab_eq⟩ (fns_cons c_spec_l1Below (fns_nil _)) mixed Try.func95 (by kernel_rfl) (by kernel_rfl) (fun x => by kernel_rfl)

def s_spec_l1Int : Sig := { params := [.ioptr y167, .val false y22], res := [.val false y3] }
noncomputable def e_spec_l1Int : Entry := ⟨s_spec_l1Int, fun a => D.spec_l1Int a.1 a.2⟩
noncomputable def v_spec_l1Int : Env := { ti := look tab, Γ := fns [(91, [], e_spec_l1Below)], loop := fun _ => none, cut := fun _ => none, deep := fun _ => false }
theorem c_spec_l1Int : Contract Try.prog 96 e_spec_l1Int.sig e_spec_l1Int.F :=
  den_is (E := v_spec_l1Int) ⟨tab_ti, tab_eq⟩ (fns_cons c_spec_l1Below (fns_nil _)) mixed Try.func96 (by kernel_rfl) (by kernel_rfl) (fun x => by kernel_rfl)

def s_spec_DrawSealBody : Sig := { params := [.val false y51], res := [.row 3 y3 false, .val false y3] }
noncomputable def e_spec_DrawSealBody : Entry := ⟨s_spec_DrawSealBody, fun a => D.spec_DrawSealBody a⟩
noncomputable def v_spec_DrawSealBody : Env := { ti := look tab, Γ := fns [(89, [], e_spec_l1New), (128, [], e_spec_l5Body), (95, [], e_spec_l1Once), (96, [], e_spec_l1Int)], loop := fun _ => none, cut := fun _ => none, deep := fun _ => false }
theorem c_spec_DrawSealBody : Contract Try.prog 65 e_spec_DrawSealBody.sig e_spec_DrawSealBody.F :=
  den_is (E := v_spec_DrawSealBody) ⟨tab_ti, tab_eq⟩ (fns_cons c_spec_l1New (fns_cons c_spec_l5Body (fns_cons c_spec_l1Once (fns_cons c_spec_l1Int (fns_nil _))))) mixed Try.func65 (by kernel_rfl) (by kernel_rfl) (fun x => by kernel_rfl)

def s_impl_allIn : Sig := { params := [.val false y22, .val false y3, .val false y3], res := [.val false y4] }
noncomputable def e_impl_allIn : Entry := ⟨s_impl_allIn, fun a => D.impl_allIn a.1 a.2.1 a.2.2⟩
noncomputable def v_impl_allIn : Env := { ti := look tab, Γ := fns [(122, [], e_impl_InRange)], loop := fun b => match b with | 0 => some [.slot 11 (.int .i64)] | _ => none, cut := fun _ => none, deep := fun _ => false }
theorem c_impl_allIn : Contract Try.prog 129 e_impl_allIn.sig e_impl_allIn.F :=
  den_is (E := v_impl_allIn) ⟨tab_ti, tab_eq⟩ (fns_cons c_impl_InRange (fns_nil _)) mixed Try.func129 (by kernel_rfl) (by kernel_rfl) (fun x => by kernel_rfl)

def s_impl_SealBody : Sig := { params := [.val false y22, .val false y3], res := [.row 99 y99 false] }
noncomputable def e_impl_SealBody : Entry := ⟨s_impl_SealBody, fun a => D.impl_SealBody a.1 a.2⟩
noncomputable def v_impl_SealBody : Env := { ti := look tab, Γ := fns [(129, [], e_impl_allIn), (122, [], e_impl_InRange), (98, [], e_impl_Hash)], loop := fun b => match b with | 0 => some [.slot 5 (.own 99 y99 false), .slot 24 (.int .i64)] | _ => none, cut := fun _ => none, deep := fun _ => false }
theorem c_impl_SealBody : Contract Try.prog 66 e_impl_SealBody.sig e_impl_SealBody.F :=
  den_is (E := v_impl_SealBody) ⟨tab_ti, tab_eq⟩ (fns_cons c_impl_allIn (fns_cons c_impl_InRange (fns_cons c_impl_Hash (fns_nil _)))) mixed Try.func66 (by kernel_rfl) (by kernel_rfl) (fun x => by kernel_rfl)

def s_laws_FnRedacted : Sig := { params := [.val false y51], res := [.val false y4] }
noncomputable def e_laws_FnRedacted : Entry := ⟨s_laws_FnRedacted, fun a => D.laws_FnRedacted a⟩
noncomputable def v_laws_FnRedacted : Env := { ti := look tab, Γ := fns [(29, [], e_laws_big), (56, [], e_spec_DrawHideLeaves), (57, [], e_impl_HideLeaves), (58, [], e_impl_AreLeaves), (59, [], e_impl_IsRedactionOf), (60, [], e_impl_SealRoot), (61, [], e_laws_contains), (62, [], e_spec_DrawIsRedactionOf), (64, [], e_impl_HiddenAt), (63, [], e_laws_within), (65, [], e_spec_DrawSealBody), (66, [], e_impl_SealBody)], loop := fun b => match b with | 0 => some [.slot 6 (.int .i64)] | 2 => some [.slot 12 (.int .i64)] | 4 => some [.slot 13 (.int .i64)] | _ => none, cut := fun _ => none, deep := fun _ => false }
theorem c_laws_FnRedacted : Contract Try.prog 9 e_laws_FnRedacted.sig e_laws_FnRedacted.F :=
  den_is (E := v_laws_FnRedacted) ⟨tab_ti, tab_eq⟩ (fns_cons c_laws_big (fns_cons c_spec_DrawHideLeaves (fns_cons c_impl_HideLeaves (fns_cons c_impl_AreLeaves (fns_cons c_impl_IsRedactionOf (fns_cons c_impl_SealRoot (fns_cons c_laws_contains (fns_cons c_spec_DrawIsRedactionOf (fns_cons c_impl_HiddenAt (fns_cons c_laws_within (fns_cons c_spec_DrawSealBody (fns_cons c_impl_SealBody (fns_nil _))))))))))))) mixed Try.func9 (by kernel_rfl) (by kernel_rfl) (fun x => by kernel_rfl)

theorem law_true (a : Tup (s_laws_FnRedacted.params.map PTy.den)) (hok : argsOk Try.prog s_laws_FnRedacted.params a) : D.laws_FnRedacted a = some true := D.FnRedacted_true a (Ty.ok_bd (P := Try.prog) (t := y51) (by kernel_rfl) hok.1)
theorem lifted (os : Os) (started : os.Started) (H : Type) (enc : TypeId × Value → H) :
    ReturnsInHanded {} Try.checked os 9 .any (Rows.fnRedactedSpec.pre6 enc Try.prog Try.f9 Rows.fnRedactedRow.domain false) (Rows.fnRedactedSpec.post enc Try.prog Try.f9 false true false false) := by
  refine returnsInHanded_of_change_sized (C := Try.checked) (by kernel_rfl) started (by kernel_rfl) Try.func9
    (ChangeSpec.witness6 (enc := enc) (C := Try.checked) false ⟨#[], #[.slice none 0 0], []⟩ 8 (by kernel_rfl) (by kernel_rfl) (by kernel_rfl) (by kernel_rfl)) ?_
  intro W base args ds gs before hval hW hcnd hsz _
  exact law_row (C := Try.checked) rfl c_laws_FnRedacted (N := 8) (by kernel_rfl) (tb := 4) (by kernel_rfl) (by kernel_rfl) (by kernel_rfl) (by kernel_rfl) rfl
    (fun ds h => by
      have h : ds.length = 1 := h
      match ds, h with
      | [d0], _ => rfl)
    bulky_sizeOf (small := fun _ => True) (fun a ds hok _ _ => ⟨_, law_true a hok, rfl⟩) hval hW hsz trivial

theorem over : Rows.fnRedactedRow.holds Try.pinned (OpenSpec.ofChange Rows.fnRedactedSpec) :=
  OpenClaim.holds_of_wide 9 Try.f9 rfl rfl rfl rfl rfl rfl rfl ⟨rfl, rfl, rfl, rfl, rfl⟩ rfl rfl rfl rfl rfl (by kernel_rfl) Try.func9 (by kernel_rfl)
    (of_decide_eq_true (by kernel_rfl)) (by unfold Func.isWrapper; first | (rw [if_pos (by decide +kernel)]; kernel_rfl) | (rw [if_neg (by decide +kernel)]; exact ⟨rfl, rfl⟩))
    (fun os started H enc _ => lifted os started H enc)
end Go.Proofs.Ytomfcmpdjfdnhaa.SxFnRedacted
namespace Go.Proofs.Ytomfcmpdjfdnhaa
theorem fnRedacted_holds : Rows.FnRedactedSaid := SxFnRedacted.over
end Go.Proofs.Ytomfcmpdjfdnhaa
