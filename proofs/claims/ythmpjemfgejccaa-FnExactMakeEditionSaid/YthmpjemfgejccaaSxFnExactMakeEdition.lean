/- FnExactMakeEdition returns true for every input, and each input reads as it did. No condition. -/
import Derived.Test.YthmpjemfgejccaaRows
import Derived.Test.YthmpjemfgejccaaPuFnExactMakeEdition
import Derived.WalkKit
import Derived.ProofKit
import Derived.ShutString
import Derived.SizedLaws
set_option linter.unusedVariables false
set_option maxRecDepth 100000
set_option maxHeartbeats 4000000
namespace Go.Proofs.Ythmpjemfgejccaa.SxFnExactMakeEdition
open Go Go.Sh Go.RowKit
def y3 : Ty := .int .i64
def y4 : Ty := .bool
def y24 : Ty := .slice 3 y3
def y85 : Ty := .pair y3 (.pair y3 y3)
def y173 : Ty := .pair y3 (.pair y24 y85)
def y175 : Ty := .pair y85 (.pair y3 y173)
def y54 : Ty := .slice 175 y175
def y93 : Ty := .pair y3 (.pair y3 y3)
def y137 : Ty := .pair y3 (.pair y24 y93)
def y139 : Ty := .pair y93 (.pair y3 y137)
def y58 : Ty := .slice 139 y139
def y68 : Ty := .slice 85 y85
def y73 : Ty := .slice 93 y93
def y75 : Ty := .pair y58 (.pair y3 (.pair y3 y73))
def y106 : Ty := .slice 54 y54
def y111 : Ty := .slice 58 y58
def tab : List (TypeId × TI) := [(3, { size := 1, bytes := 8, agg := false, ty := some y3 }),
  (4, { size := 1, bytes := 1, agg := false, ty := some y4 }),
  (24, { size := 1, bytes := 24, agg := false, ty := some y24, elem := some 3 }),
  (85, { size := 3, bytes := 24, agg := true, ty := some y85, fields := [(0, 3), (1, 3), (2, 3)] }),
  (173, { size := 5, bytes := 56, agg := true, ty := some y173, fields := [(0, 3), (1, 24), (2, 85)] }),
  (175, { size := 9, bytes := 88, agg := true, ty := some y175, fields := [(0, 85), (3, 3), (4, 173)] }),
  (54, { size := 1, bytes := 24, agg := false, ty := some y54, elem := some 175 }),
  (93, { size := 3, bytes := 24, agg := true, ty := some y93, fields := [(0, 3), (1, 3), (2, 3)], eq := true }),
  (137, { size := 5, bytes := 56, agg := true, ty := some y137, fields := [(0, 3), (1, 24), (2, 93)] }),
  (139, { size := 9, bytes := 88, agg := true, ty := some y139, fields := [(0, 93), (3, 3), (4, 137)] }),
  (58, { size := 1, bytes := 24, agg := false, ty := some y58, elem := some 139 }),
  (68, { size := 1, bytes := 24, agg := false, ty := some y68, elem := some 85 }),
  (73, { size := 1, bytes := 24, agg := false, ty := some y73, elem := some 93 }),
  (75, { size := 4, bytes := 64, agg := true, ty := some y75, fields := [(0, 58), (1, 3), (2, 3), (3, 73)] }),
  (106, { size := 1, bytes := 24, agg := false, ty := some y106, elem := some 54 }),
  (111, { size := 1, bytes := 24, agg := false, ty := some y111, elem := some 58 })]
def look : List (TypeId × TI) → TypeId → Option TI
  | [], _ => none
  | (k, i) :: r, t => if Nat.beq t k = true then some i else look r t
theorem look_ok {P : Program} : ∀ {l : List (TypeId × TI)}, (l.all fun p => tiOk P p.1 p.2) = true → ∀ t i, look l t = some i → tiOk P t i = true
  | [], _, t, i, h => by simp [look] at h
  | (k, j) :: r, h0, t, i, h => by
    simp only [List.all_cons, Bool.and_eq_true] at h0
    simp only [look] at h
    split at h
    · rename_i hk
      simp only [Option.some.injEq] at h
      have := Nat.eq_of_beq_eq_true hk
      subst this; subst h; exact h0.1
    · exact look_ok h0.2 t i h
theorem look_eq {P : Program} : ∀ {l : List (TypeId × TI)}, (l.all fun p => !p.2.eq || eqTop P p.1 p.2.ty) = true → ∀ t i, look l t = some i → i.eq = true → ∀ ty, i.ty = some ty → EqLaw P t ty.zero
  | [], _, t, i, h => by simp [look] at h
  | (k, j) :: r, h0, t, i, h => by
    simp only [List.all_cons, Bool.and_eq_true, Bool.or_eq_true, Bool.not_eq_true'] at h0
    simp only [look] at h
    split at h
    · rename_i hk
      simp only [Option.some.injEq] at h
      have := Nat.eq_of_beq_eq_true hk
      subst this; subst h
      intro he
      exact eqLaw_of (h0.1.resolve_left (by simp [he]))
    · exact look_eq h0.2 t i h
def same : List Nat → List Nat → Bool
  | [], [] => true
  | a :: x, b :: y => Nat.beq a b && same x y
  | _, _ => false
theorem same_eq : ∀ {x y : List Nat}, same x y = true → x = y
  | [], [], _ => rfl
  | a :: x, b :: y, h => by
    simp only [same, Bool.and_eq_true] at h
    rw [Nat.eq_of_beq_eq_true h.1, same_eq h.2]
  | [], _ :: _, h => by simp [same] at h
  | _ :: _, [], h => by simp [same] at h
def fns : List (FuncId × List FuncId × Entry) → FuncId → List FuncId → Option Entry
  | [], _, _ => none
  | (k, c, e) :: r, f, fs => if (Nat.beq f k && same fs c) = true then some e else fns r f fs
theorem fns_nil (P : Program) : ∀ f fs en, fns [] f fs = some en → Contract P f en.sig en.F := fun f fs en h => by simp [fns] at h
theorem fns_cons {P : Program} {k : FuncId} {c : List FuncId} {e : Entry} {r : List (FuncId × List FuncId × Entry)} (hk : Contract P k e.sig e.F) (hr : ∀ f fs en, fns r f fs = some en → Contract P f en.sig en.F) : ∀ f fs en, fns ((k, c, e) :: r) f fs = some en → Contract P f en.sig en.F := fun f fs en h => by
  simp only [fns] at h
  split at h
  · rename_i hf
    simp only [Bool.and_eq_true] at hf
    simp only [Option.some.injEq] at h
    have := Nat.eq_of_beq_eq_true hf.1
    subst this; subst h; exact hk
  · exact hr f fs en h

theorem tab_ti : ∀ t i, look tab t = some i → tiOk Try.prog t i = true := look_ok (by kernel_rfl)
theorem tab_eq : ∀ t i, look tab t = some i → i.eq = true → ∀ ty, i.ty = some ty → EqLaw Try.prog t ty.zero := look_eq (by kernel_rfl)
theorem mixed : Try.prog.follows .mixedOrders = true := by kernel_rfl
def s_laws_szIntS : Sig := { params := [.val false y24, .val false y3], res := [.val false y3] }
noncomputable def e_laws_szIntS : Entry := ⟨s_laws_szIntS, fun a => D.laws_szIntS a.1 a.2⟩
noncomputable def v_laws_szIntS : Env := { ti := look tab, Γ := fns [], loop := fun _ => none, cut := fun _ => none, deep := fun _ => false }
theorem c_laws_szIntS : Contract Try.prog 103 e_laws_szIntS.sig e_laws_szIntS.F :=
  den_is (E := v_laws_szIntS) ⟨tab_ti, tab_eq⟩ (fns_nil _) mixed Try.func103 (by kernel_rfl) (by kernel_rfl) (fun x => by kernel_rfl)

def s_laws_szResource : Sig := { params := [.val true y173, .val false y3], res := [.val false y3] }
noncomputable def e_laws_szResource : Entry := ⟨s_laws_szResource, fun a => D.laws_szResource a.1 a.2⟩
noncomputable def v_laws_szResource : Env := { ti := look tab, Γ := fns [(103, [], e_laws_szIntS)], loop := fun _ => none, cut := fun _ => none, deep := fun _ => false }
theorem c_laws_szResource : Contract Try.prog 199 e_laws_szResource.sig e_laws_szResource.F :=
  den_is (E := v_laws_szResource) ⟨tab_ti, tab_eq⟩ (fns_cons c_laws_szIntS (fns_nil _)) mixed Try.func199 (by kernel_rfl) (by kernel_rfl) (fun x => by kernel_rfl)

def s_laws_szCapture : Sig := { params := [.val true y175, .val false y3], res := [.val false y3] }
noncomputable def e_laws_szCapture : Entry := ⟨s_laws_szCapture, fun a => D.laws_szCapture a.1 a.2⟩
noncomputable def v_laws_szCapture : Env := { ti := look tab, Γ := fns [(199, [], e_laws_szResource)], loop := fun _ => none, cut := fun _ => none, deep := fun _ => false }
theorem c_laws_szCapture : Contract Try.prog 121 e_laws_szCapture.sig e_laws_szCapture.F :=
  den_is (E := v_laws_szCapture) ⟨tab_ti, tab_eq⟩ (fns_cons c_laws_szResource (fns_nil _)) mixed Try.func121 (by kernel_rfl) (by kernel_rfl) (fun x => by kernel_rfl)

def s_laws_szCaptureS : Sig := { params := [.val false y54, .val false y3], res := [.val false y3] }
noncomputable def e_laws_szCaptureS : Entry := ⟨s_laws_szCaptureS, fun a => D.laws_szCaptureS a.1 a.2⟩
noncomputable def v_laws_szCaptureS : Env := { ti := look tab, Γ := fns [(121, [], e_laws_szCapture)], loop := fun b => match b with | 0 => some [.slot 1 (.int .i64), .slot 5 (.int .i64)] | _ => none, cut := fun _ => none, deep := fun _ => false }
theorem c_laws_szCaptureS : Contract Try.prog 40 e_laws_szCaptureS.sig e_laws_szCaptureS.F :=
  den_is (E := v_laws_szCaptureS) ⟨tab_ti, tab_eq⟩ (fns_cons c_laws_szCapture (fns_nil _)) mixed Try.func40 (by kernel_rfl) (by kernel_rfl) (fun x => by kernel_rfl)

def s_laws_szCaptureSS : Sig := { params := [.val false y106, .val false y3], res := [.val false y3] }
noncomputable def e_laws_szCaptureSS : Entry := ⟨s_laws_szCaptureSS, fun a => D.laws_szCaptureSS a.1 a.2⟩
noncomputable def v_laws_szCaptureSS : Env := { ti := look tab, Γ := fns [(40, [], e_laws_szCaptureS)], loop := fun b => match b with | 0 => some [.slot 1 (.int .i64), .slot 5 (.int .i64)] | _ => none, cut := fun _ => none, deep := fun _ => false }
theorem c_laws_szCaptureSS : Contract Try.prog 72 e_laws_szCaptureSS.sig e_laws_szCaptureSS.F :=
  den_is (E := v_laws_szCaptureSS) ⟨tab_ti, tab_eq⟩ (fns_cons c_laws_szCaptureS (fns_nil _)) mixed Try.func72 (by kernel_rfl) (by kernel_rfl) (fun x => by kernel_rfl)

def s_laws_szAddressS : Sig := { params := [.val false y68, .val false y3], res := [.val false y3] }
noncomputable def e_laws_szAddressS : Entry := ⟨s_laws_szAddressS, fun a => D.laws_szAddressS a.1 a.2⟩
noncomputable def v_laws_szAddressS : Env := { ti := look tab, Γ := fns [], loop := fun _ => none, cut := fun _ => none, deep := fun _ => false }
theorem c_laws_szAddressS : Contract Try.prog 73 e_laws_szAddressS.sig e_laws_szAddressS.F :=
  den_is (E := v_laws_szAddressS) ⟨tab_ti, tab_eq⟩ (fns_nil _) mixed Try.func73 (by kernel_rfl) (by kernel_rfl) (fun x => by kernel_rfl)

def s_laws_toAddress : Sig := { params := [.val true y85], res := [.val true y93] }
noncomputable def e_laws_toAddress : Entry := ⟨s_laws_toAddress, fun a => D.laws_toAddress a⟩
noncomputable def v_laws_toAddress : Env := { ti := look tab, Γ := fns [], loop := fun _ => none, cut := fun _ => none, deep := fun _ => false }
theorem c_laws_toAddress : Contract Try.prog 60 e_laws_toAddress.sig e_laws_toAddress.F :=
  den_is (E := v_laws_toAddress) ⟨tab_ti, tab_eq⟩ (fns_nil _) mixed Try.func60 (by kernel_rfl) (by kernel_rfl) (fun x => by kernel_rfl)

def s_laws_toIntS : Sig := { params := [.val false y24], res := [.row 3 y3 false] }
noncomputable def e_laws_toIntS : Entry := ⟨s_laws_toIntS, fun a => D.laws_toIntS a⟩
noncomputable def v_laws_toIntS : Env := { ti := look tab, Γ := fns [], loop := fun b => match b with | 0 => some [.slot 4 (.int .i64), .vec 3 3 y3 false] | _ => none, cut := fun _ => none, deep := fun _ => false }
theorem c_laws_toIntS : Contract Try.prog 111 e_laws_toIntS.sig e_laws_toIntS.F :=
  den_is (E := v_laws_toIntS) ⟨tab_ti, tab_eq⟩ (fns_nil _) mixed Try.func111 (by kernel_rfl) (by kernel_rfl) (fun x => by kernel_rfl)

def s_laws_toResource : Sig := { params := [.val true y173], res := [.val false y3, .row 3 y3 false, .val false y3, .val false y3, .val false y3], rgroups := [some 5] }
noncomputable def e_laws_toResource : Entry := ⟨s_laws_toResource, fun a => D.laws_toResource a⟩
noncomputable def v_laws_toResource : Env := { ti := look tab, Γ := fns [(111, [], e_laws_toIntS), (60, [], e_laws_toAddress)], loop := fun _ => none, cut := fun _ => none, deep := fun _ => false }
theorem c_laws_toResource : Contract Try.prog 202 e_laws_toResource.sig e_laws_toResource.F :=
  den_is (E := v_laws_toResource) ⟨tab_ti, tab_eq⟩ (fns_cons c_laws_toIntS (fns_cons c_laws_toAddress (fns_nil _))) mixed Try.func202 (by kernel_rfl) (by kernel_rfl) (fun x => by kernel_rfl)

def s_laws_toCapture : Sig := { params := [.val true y175], res := [.val false y3, .val false y3, .val false y3, .val false y3, .val false y3, .row 3 y3 false, .val false y3, .val false y3, .val false y3], rgroups := [some 9] }
noncomputable def e_laws_toCapture : Entry := ⟨s_laws_toCapture, fun a => D.laws_toCapture a⟩
noncomputable def v_laws_toCapture : Env := { ti := look tab, Γ := fns [(60, [], e_laws_toAddress), (202, [], e_laws_toResource)], loop := fun _ => none, cut := fun _ => none, deep := fun _ => false }
theorem c_laws_toCapture : Contract Try.prog 124 e_laws_toCapture.sig e_laws_toCapture.F :=
  den_is (E := v_laws_toCapture) ⟨tab_ti, tab_eq⟩ (fns_cons c_laws_toAddress (fns_cons c_laws_toResource (fns_nil _))) mixed Try.func124 (by kernel_rfl) (by kernel_rfl) (fun x => by kernel_rfl)

def s_laws_toCaptureS : Sig := { params := [.val false y54], res := [.row 139 y139 true] }
noncomputable def e_laws_toCaptureS : Entry := ⟨s_laws_toCaptureS, fun a => D.laws_toCaptureS a⟩
noncomputable def v_laws_toCaptureS : Env := { ti := look tab, Γ := fns [(124, [], e_laws_toCapture)], loop := fun b => match b with | 0 => some [.slot 4 (.int .i64), .vec 3 139 y139 true] | _ => none, cut := fun _ => none, deep := fun t => Nat.beq t 7 }
theorem c_laws_toCaptureS : Contract Try.prog 43 e_laws_toCaptureS.sig e_laws_toCaptureS.F :=
  den_is (E := v_laws_toCaptureS) ⟨tab_ti, tab_eq⟩ (fns_cons c_laws_toCapture (fns_nil _)) mixed Try.func43 (by kernel_rfl) (by kernel_rfl) (fun x => by kernel_rfl)

def s_laws_toCaptureSS : Sig := { params := [.val false y106], res := [.row 58 y58 true] }
noncomputable def e_laws_toCaptureSS : Entry := ⟨s_laws_toCaptureSS, fun a => D.laws_toCaptureSS a⟩
noncomputable def v_laws_toCaptureSS : Env := { ti := look tab, Γ := fns [(43, [], e_laws_toCaptureS)], loop := fun b => match b with | 0 => some [.slot 4 (.int .i64), .vec 3 58 y58 true] | _ => none, cut := fun _ => none, deep := fun t => Nat.beq t 7 }
theorem c_laws_toCaptureSS : Contract Try.prog 75 e_laws_toCaptureSS.sig e_laws_toCaptureSS.F :=
  den_is (E := v_laws_toCaptureSS) ⟨tab_ti, tab_eq⟩ (fns_cons c_laws_toCaptureS (fns_nil _)) mixed Try.func75 (by kernel_rfl) (by kernel_rfl) (fun x => by kernel_rfl)

def s_laws_toAddressS : Sig := { params := [.val false y68], res := [.row 93 y93 false] }
noncomputable def e_laws_toAddressS : Entry := ⟨s_laws_toAddressS, fun a => D.laws_toAddressS a⟩
noncomputable def v_laws_toAddressS : Env := { ti := look tab, Γ := fns [(60, [], e_laws_toAddress)], loop := fun b => match b with | 0 => some [.slot 4 (.int .i64), .vec 3 93 y93 false] | _ => none, cut := fun _ => none, deep := fun _ => false }
theorem c_laws_toAddressS : Contract Try.prog 76 e_laws_toAddressS.sig e_laws_toAddressS.F :=
  den_is (E := v_laws_toAddressS) ⟨tab_ti, tab_eq⟩ (fns_cons c_laws_toAddress (fns_nil _)) mixed Try.func76 (by kernel_rfl) (by kernel_rfl) (fun x => by kernel_rfl)

def s_spec_l1In : Sig := { params := [.val false y3, .val false y3, .val false y3], res := [.val false y4] }
noncomputable def e_spec_l1In : Entry := ⟨s_spec_l1In, fun a => D.spec_l1In a.1 a.2.1 a.2.2⟩
noncomputable def v_spec_l1In : Env := { ti := look tab, Γ := fns [], loop := fun _ => none, cut := fun _ => none, deep := fun _ => false }
theorem c_spec_l1In : Contract Try.prog 152 e_spec_l1In.sig e_spec_l1In.F :=
  den_is (E := v_spec_l1In) ⟨tab_ti, tab_eq⟩ (fns_nil _) mixed Try.func152 (by kernel_rfl) (by kernel_rfl) (fun x => by kernel_rfl)

def s_spec_IsAddress : Sig := { params := [.val true y93], res := [.val false y4] }
noncomputable def e_spec_IsAddress : Entry := ⟨s_spec_IsAddress, fun a => D.spec_IsAddress a⟩
noncomputable def v_spec_IsAddress : Env := { ti := look tab, Γ := fns [(152, [], e_spec_l1In)], loop := fun _ => none, cut := fun _ => none, deep := fun _ => false }
theorem c_spec_IsAddress : Contract Try.prog 189 e_spec_IsAddress.sig e_spec_IsAddress.F :=
  den_is (E := v_spec_IsAddress) ⟨tab_ti, tab_eq⟩ (fns_cons c_spec_l1In (fns_nil _)) mixed Try.func189 (by kernel_rfl) (by kernel_rfl) (fun x => by kernel_rfl)

def s_spec_l5Bytes : Sig := { params := [.val false y24], res := [.val false y4] }
noncomputable def e_spec_l5Bytes : Entry := ⟨s_spec_l5Bytes, fun a => D.spec_l5Bytes a⟩
noncomputable def v_spec_l5Bytes : Env := { ti := look tab, Γ := fns [(152, [], e_spec_l1In)], loop := fun b => match b with | 0 => some [.slot 3 (.int .i64)] | _ => none, cut := fun _ => none, deep := fun _ => false }
theorem c_spec_l5Bytes : Contract Try.prog 236 e_spec_l5Bytes.sig e_spec_l5Bytes.F :=
  den_is (E := v_spec_l5Bytes) ⟨tab_ti, tab_eq⟩ (fns_cons c_spec_l1In (fns_nil _)) mixed Try.func236 (by kernel_rfl) (by kernel_rfl) (fun x => by kernel_rfl)

def s_spec_IsResource : Sig := { params := [.val true y137], res := [.val false y4] }
noncomputable def e_spec_IsResource : Entry := ⟨s_spec_IsResource, fun a => D.spec_IsResource a⟩
noncomputable def v_spec_IsResource : Env := { ti := look tab, Γ := fns [(152, [], e_spec_l1In), (236, [], e_spec_l5Bytes), (189, [], e_spec_IsAddress)], loop := fun _ => none, cut := fun _ => none, deep := fun _ => false }
theorem c_spec_IsResource : Contract Try.prog 212 e_spec_IsResource.sig e_spec_IsResource.F :=
  den_is (E := v_spec_IsResource) ⟨tab_ti, tab_eq⟩ (fns_cons c_spec_l1In (fns_cons c_spec_l5Bytes (fns_cons c_spec_IsAddress (fns_nil _)))) mixed Try.func212 (by kernel_rfl) (by kernel_rfl) (fun x => by kernel_rfl)

def s_spec_AreCaptures : Sig := { params := [.val false y58], res := [.val false y4] }
noncomputable def e_spec_AreCaptures : Entry := ⟨s_spec_AreCaptures, fun a => D.spec_AreCaptures a⟩
noncomputable def v_spec_AreCaptures : Env := { ti := look tab, Γ := fns [(189, [], e_spec_IsAddress), (152, [], e_spec_l1In), (212, [], e_spec_IsResource)], loop := fun b => match b with | 0 => some [.slot 3 (.int .i64)] | _ => none, cut := fun _ => none, deep := fun _ => false }
theorem c_spec_AreCaptures : Contract Try.prog 153 e_spec_AreCaptures.sig e_spec_AreCaptures.F :=
  den_is (E := v_spec_AreCaptures) ⟨tab_ti, tab_eq⟩ (fns_cons c_spec_IsAddress (fns_cons c_spec_l1In (fns_cons c_spec_IsResource (fns_nil _)))) mixed Try.func153 (by kernel_rfl) (by kernel_rfl) (fun x => by kernel_rfl)

def s_spec_l9Has : Sig := { params := [.val false y73, .val true y93], res := [.val false y4] }
noncomputable def e_spec_l9Has : Entry := ⟨s_spec_l9Has, fun a => D.spec_l9Has a.1 a.2⟩
noncomputable def v_spec_l9Has : Env := { ti := look tab, Γ := fns [], loop := fun b => match b with | 0 => some [.slot 5 (.int .i64)] | _ => none, cut := fun _ => none, deep := fun _ => false }
theorem c_spec_l9Has : Contract Try.prog 213 e_spec_l9Has.sig e_spec_l9Has.F :=
  den_is (E := v_spec_l9Has) ⟨tab_ti, tab_eq⟩ (fns_nil _) mixed Try.func213 (by kernel_rfl) (by kernel_rfl) (fun x => by kernel_rfl)

def s_spec_l5Copy : Sig := { params := [.val true y137], res := [.val false y3, .row 3 y3 false, .val false y3, .val false y3, .val false y3], rgroups := [some 5] }
noncomputable def e_spec_l5Copy : Entry := ⟨s_spec_l5Copy, fun a => D.spec_l5Copy a⟩
noncomputable def v_spec_l5Copy : Env := { ti := look tab, Γ := fns [], loop := fun _ => none, cut := fun _ => none, deep := fun _ => false }
theorem c_spec_l5Copy : Contract Try.prog 201 e_spec_l5Copy.sig e_spec_l5Copy.F :=
  den_is (E := v_spec_l5Copy) ⟨tab_ti, tab_eq⟩ (fns_nil _) mixed Try.func201 (by kernel_rfl) (by kernel_rfl) (fun x => by kernel_rfl)

def s_spec_l15Copy : Sig := { params := [.val false y58], res := [.row 139 y139 true] }
noncomputable def e_spec_l15Copy : Entry := ⟨s_spec_l15Copy, fun a => D.spec_l15Copy a⟩
noncomputable def v_spec_l15Copy : Env := { ti := look tab, Γ := fns [(201, [], e_spec_l5Copy)], loop := fun b => match b with | 0 => some [.slot 3 (.own 139 y139 true), .slot 4 (.int .i64)] | _ => none, cut := fun _ => none, deep := fun t => Nat.beq t 5 || Nat.beq t 30 }
theorem c_spec_l15Copy : Contract Try.prog 123 e_spec_l15Copy.sig e_spec_l15Copy.F :=
  den_is (E := v_spec_l15Copy) ⟨tab_ti, tab_eq⟩ (fns_cons c_spec_l5Copy (fns_nil _)) mixed Try.func123 (by kernel_rfl) (by kernel_rfl) (fun x => by kernel_rfl)

def s_spec_l23Without : Sig := { params := [.val false y58, .val false y73], res := [.val false y58] }
noncomputable def e_spec_l23Without : Entry := ⟨s_spec_l23Without, fun a => D.spec_l23Without a.1 a.2⟩
noncomputable def v_spec_l23Without : Env := { ti := look tab, Γ := fns [(213, [], e_spec_l9Has), (123, [], e_spec_l15Copy)], loop := fun b => match b with | 0 => some [.slot 5 (.own 139 y139 true), .slot 6 (.int .i64)] | _ => none, cut := fun _ => none, deep := fun t => Nat.beq t 7 }
theorem c_spec_l23Without : Contract Try.prog 154 e_spec_l23Without.sig e_spec_l23Without.F :=
  den_is (E := v_spec_l23Without) ⟨tab_ti, tab_eq⟩ (fns_cons c_spec_l9Has (fns_cons c_spec_l15Copy (fns_nil _))) mixed Try.func154 (by kernel_rfl) (by kernel_rfl) (fun x => by kernel_rfl)

def s_spec_EqualInts : Sig := { params := [.val false y24, .val false y24], res := [.val false y4] }
noncomputable def e_spec_EqualInts : Entry := ⟨s_spec_EqualInts, fun a => D.spec_EqualInts a.1 a.2⟩
noncomputable def v_spec_EqualInts : Env := { ti := look tab, Γ := fns [], loop := fun b => match b with | 0 => some [.slot 5 (.int .i64)] | _ => none, cut := fun _ => none, deep := fun _ => false }
theorem c_spec_EqualInts : Contract Try.prog 245 e_spec_EqualInts.sig e_spec_EqualInts.F :=
  den_is (E := v_spec_EqualInts) ⟨tab_ti, tab_eq⟩ (fns_nil _) mixed Try.func245 (by kernel_rfl) (by kernel_rfl) (fun x => by kernel_rfl)

def s_spec_EqualResources : Sig := { params := [.val true y137, .val true y137], res := [.val false y4] }
noncomputable def e_spec_EqualResources : Entry := ⟨s_spec_EqualResources, fun a => D.spec_EqualResources a.1 a.2⟩
noncomputable def v_spec_EqualResources : Env := { ti := look tab, Γ := fns [(245, [], e_spec_EqualInts)], loop := fun _ => none, cut := fun _ => none, deep := fun _ => false }
theorem c_spec_EqualResources : Contract Try.prog 237 e_spec_EqualResources.sig e_spec_EqualResources.F :=
  den_is (E := v_spec_EqualResources) ⟨tab_ti, tab_eq⟩ (fns_cons c_spec_EqualInts (fns_nil _)) mixed Try.func237 (by kernel_rfl) (by kernel_rfl) (fun x => by kernel_rfl)

def s_spec_l15Same : Sig := { params := [.val true y139, .val true y139], res := [.val false y4] }
noncomputable def e_spec_l15Same : Entry := ⟨s_spec_l15Same, fun a => D.spec_l15Same a.1 a.2⟩
noncomputable def v_spec_l15Same : Env := { ti := look tab, Γ := fns [(237, [], e_spec_EqualResources)], loop := fun _ => none, cut := fun _ => none, deep := fun _ => false }
theorem c_spec_l15Same : Contract Try.prog 214 e_spec_l15Same.sig e_spec_l15Same.F :=
  den_is (E := v_spec_l15Same) ⟨tab_ti, tab_eq⟩ (fns_cons c_spec_EqualResources (fns_nil _)) mixed Try.func214 (by kernel_rfl) (by kernel_rfl) (fun x => by kernel_rfl)

def s_spec_l20In : Sig := { params := [.val false y58, .val true y139], res := [.val false y4] }
noncomputable def e_spec_l20In : Entry := ⟨s_spec_l20In, fun a => D.spec_l20In a.1 a.2⟩
noncomputable def v_spec_l20In : Env := { ti := look tab, Γ := fns [(214, [], e_spec_l15Same)], loop := fun b => match b with | 0 => some [.slot 5 (.int .i64)] | _ => none, cut := fun _ => none, deep := fun _ => false }
theorem c_spec_l20In : Contract Try.prog 155 e_spec_l20In.sig e_spec_l20In.F :=
  den_is (E := v_spec_l20In) ⟨tab_ti, tab_eq⟩ (fns_cons c_spec_l15Same (fns_nil _)) mixed Try.func155 (by kernel_rfl) (by kernel_rfl) (fun x => by kernel_rfl)

def s_spec_MakeEdition : Sig := { params := [.val false y111, .val false y3, .val false y3, .val false y73], res := [.row 139 y139 false, .val false y3, .val false y3, .row 93 y93 false, .val false y4], rgroups := [some 4, none] }
noncomputable def e_spec_MakeEdition : Entry := ⟨s_spec_MakeEdition, fun a => D.spec_MakeEdition a.1 a.2.1 a.2.2.1 a.2.2.2⟩
noncomputable def v_spec_MakeEdition : Env := { ti := look tab, Γ := fns [(152, [], e_spec_l1In), (153, [], e_spec_AreCaptures), (154, [], e_spec_l23Without), (155, [], e_spec_l20In)], loop := fun b => match b with | 0 => some [.slot 11 (.int .i64), .box 8 [.ro 139 y139, .int .i64, .int .i64, .ro 93 y93], .box 10 [.own 139 y139 false, .int .i64, .int .i64, .own 93 y93 false]] | 2 => some [.slot 13 (.int .i64), .box 10 [.own 139 y139 false, .int .i64, .int .i64, .own 93 y93 false]] | _ => none, cut := fun _ => none, deep := fun _ => false }
theorem c_spec_MakeEdition : Contract Try.prog 74 e_spec_MakeEdition.sig e_spec_MakeEdition.F :=
  den_is (E := v_spec_MakeEdition) ⟨tab_ti, tab_eq⟩ (fns_cons c_spec_l1In (fns_cons c_spec_AreCaptures (fns_cons c_spec_l23Without (fns_cons c_spec_l20In (fns_nil _))))) mixed Try.func74 (by kernel_rfl) (by kernel_rfl) (fun x => by kernel_rfl)

def s_impl_InRange : Sig := { params := [.val false y3, .val false y3, .val false y3], res := [.val false y4] }
noncomputable def e_impl_InRange : Entry := ⟨s_impl_InRange, fun a => D.impl_InRange a.1 a.2.1 a.2.2⟩
noncomputable def v_impl_InRange : Env := { ti := look tab, Γ := fns [], loop := fun _ => none, cut := fun _ => none, deep := fun _ => false }
theorem c_impl_InRange : Contract Try.prog 156 e_impl_InRange.sig e_impl_InRange.F :=
  den_is (E := v_impl_InRange) ⟨tab_ti, tab_eq⟩ (fns_nil _) mixed Try.func156 (by kernel_rfl) (by kernel_rfl) (fun x => by kernel_rfl)

def s_slices_Clone_Address : Sig := { params := [.val false y73], res := [.row 93 y93 false] }
noncomputable def e_slices_Clone_Address : Entry := ⟨s_slices_Clone_Address, fun a => D.slices_Clone_Address a⟩
noncomputable def v_slices_Clone_Address : Env := { ti := look tab, Γ := fns [], loop := fun _ => none, cut := fun _ => none, deep := fun _ => false }
theorem c_slices_Clone_Address : Contract Try.prog 157 e_slices_Clone_Address.sig e_slices_Clone_Address.F :=
  den_is (E := v_slices_Clone_Address) ⟨tab_ti, tab_eq⟩ (fns_nil _) mixed Try.func157 (by kernel_rfl) (by kernel_rfl) (fun x => by kernel_rfl)

def s_impl_IsAddress : Sig := { params := [.val true y93], res := [.val false y4] }
noncomputable def e_impl_IsAddress : Entry := ⟨s_impl_IsAddress, fun a => D.impl_IsAddress a⟩
noncomputable def v_impl_IsAddress : Env := { ti := look tab, Γ := fns [(156, [], e_impl_InRange)], loop := fun _ => none, cut := fun _ => none, deep := fun _ => false }
theorem c_impl_IsAddress : Contract Try.prog 198 e_impl_IsAddress.sig e_impl_IsAddress.F :=
  den_is (E := v_impl_IsAddress) ⟨tab_ti, tab_eq⟩ (fns_cons c_impl_InRange (fns_nil _)) mixed Try.func198 (by kernel_rfl) (by kernel_rfl) (fun x => by kernel_rfl)

def s_impl_allIn : Sig := { params := [.val false y24, .val false y3, .val false y3], res := [.val false y4] }
noncomputable def e_impl_allIn : Entry := ⟨s_impl_allIn, fun a => D.impl_allIn a.1 a.2.1 a.2.2⟩
noncomputable def v_impl_allIn : Env := { ti := look tab, Γ := fns [(156, [], e_impl_InRange)], loop := fun b => match b with | 0 => some [.slot 11 (.int .i64)] | _ => none, cut := fun _ => none, deep := fun _ => false }
theorem c_impl_allIn : Contract Try.prog 239 e_impl_allIn.sig e_impl_allIn.F :=
  den_is (E := v_impl_allIn) ⟨tab_ti, tab_eq⟩ (fns_cons c_impl_InRange (fns_nil _)) mixed Try.func239 (by kernel_rfl) (by kernel_rfl) (fun x => by kernel_rfl)

def s_impl_IsResource : Sig := { params := [.val true y137], res := [.val false y4] }
noncomputable def e_impl_IsResource : Entry := ⟨s_impl_IsResource, fun a => D.impl_IsResource a⟩
noncomputable def v_impl_IsResource : Env := { ti := look tab, Γ := fns [(239, [], e_impl_allIn), (198, [], e_impl_IsAddress)], loop := fun _ => none, cut := fun _ => none, deep := fun _ => false }
theorem c_impl_IsResource : Contract Try.prog 217 e_impl_IsResource.sig e_impl_IsResource.F :=
  den_is (E := v_impl_IsResource) ⟨tab_ti, tab_eq⟩ (fns_cons c_impl_allIn (fns_cons c_impl_IsAddress (fns_nil _))) mixed Try.func217 (by kernel_rfl) (by kernel_rfl) (fun x => by kernel_rfl)

def s_impl_AreCaptures_1 : Sig := { params := [.val true y139], res := [.val false y4] }
noncomputable def e_impl_AreCaptures_1 : Entry := ⟨s_impl_AreCaptures_1, fun a => D.impl_AreCaptures_1 a⟩
noncomputable def v_impl_AreCaptures_1 : Env := { ti := look tab, Γ := fns [(198, [], e_impl_IsAddress), (156, [], e_impl_InRange), (217, [], e_impl_IsResource)], loop := fun _ => none, cut := fun _ => none, deep := fun _ => false }
theorem c_impl_AreCaptures_1 : Contract Try.prog 216 e_impl_AreCaptures_1.sig e_impl_AreCaptures_1.F :=
  den_is (E := v_impl_AreCaptures_1) ⟨tab_ti, tab_eq⟩ (fns_cons c_impl_IsAddress (fns_cons c_impl_InRange (fns_cons c_impl_IsResource (fns_nil _)))) mixed Try.func216 (by kernel_rfl) (by kernel_rfl) (fun x => by kernel_rfl)

def s_slices_IndexFunc_Capture_impl_AreCaptures_1 : Sig := { params := [.val false y58, .fn 216 []], res := [.val false y3] }
noncomputable def e_slices_IndexFunc_Capture_impl_AreCaptures_1 : Entry := ⟨s_slices_IndexFunc_Capture_impl_AreCaptures_1, fun a => D.slices_IndexFunc_Capture_impl_AreCaptures_1 a.1⟩
noncomputable def v_slices_IndexFunc_Capture_impl_AreCaptures_1 : Env := { ti := look tab, Γ := fns [(216, [], e_impl_AreCaptures_1)], loop := fun b => match b with | 0 => some [.slot 8 (.int .i64)] | _ => none, cut := fun _ => none, deep := fun _ => false }
theorem c_slices_IndexFunc_Capture_impl_AreCaptures_1 : Contract Try.prog 238 e_slices_IndexFunc_Capture_impl_AreCaptures_1.sig e_slices_IndexFunc_Capture_impl_AreCaptures_1.F :=
  den_is (E := v_slices_IndexFunc_Capture_impl_AreCaptures_1) ⟨tab_ti, tab_eq⟩ (fns_cons c_impl_AreCaptures_1 (fns_nil _)) mixed Try.func238 (by kernel_rfl) (by kernel_rfl) (fun x => by kernel_rfl)

def s_slices_ContainsFunc_Capture_impl_AreCaptures_1 : Sig := { params := [.val false y58, .fn 216 []], res := [.val false y4] }
noncomputable def e_slices_ContainsFunc_Capture_impl_AreCaptures_1 : Entry := ⟨s_slices_ContainsFunc_Capture_impl_AreCaptures_1, fun a => D.slices_ContainsFunc_Capture_impl_AreCaptures_1 a.1⟩
noncomputable def v_slices_ContainsFunc_Capture_impl_AreCaptures_1 : Env := { ti := look tab, Γ := fns [(238, [216], e_slices_IndexFunc_Capture_impl_AreCaptures_1)], loop := fun _ => none, cut := fun _ => none, deep := fun _ => false }
theorem c_slices_ContainsFunc_Capture_impl_AreCaptures_1 : Contract Try.prog 215 e_slices_ContainsFunc_Capture_impl_AreCaptures_1.sig e_slices_ContainsFunc_Capture_impl_AreCaptures_1.F :=
  den_is (E := v_slices_ContainsFunc_Capture_impl_AreCaptures_1) ⟨tab_ti, tab_eq⟩ (fns_cons c_slices_IndexFunc_Capture_impl_AreCaptures_1 (fns_nil _)) mixed Try.func215 (by kernel_rfl) (by kernel_rfl) (fun x => by kernel_rfl)

def s_impl_AreCaptures : Sig := { params := [.val false y58], res := [.val false y4] }
noncomputable def e_impl_AreCaptures : Entry := ⟨s_impl_AreCaptures, fun a => D.impl_AreCaptures a⟩
noncomputable def v_impl_AreCaptures : Env := { ti := look tab, Γ := fns [(215, [216], e_slices_ContainsFunc_Capture_impl_AreCaptures_1)], loop := fun _ => none, cut := fun _ => none, deep := fun _ => false }
theorem c_impl_AreCaptures : Contract Try.prog 158 e_impl_AreCaptures.sig e_impl_AreCaptures.F :=
  den_is (E := v_impl_AreCaptures) ⟨tab_ti, tab_eq⟩ (fns_cons c_slices_ContainsFunc_Capture_impl_AreCaptures_1 (fns_nil _)) mixed Try.func158 (by kernel_rfl) (by kernel_rfl) (fun x => by kernel_rfl)

def s_slices_Index_Address : Sig := { params := [.val false y73, .val true y93], res := [.val false y3] }
noncomputable def e_slices_Index_Address : Entry := ⟨s_slices_Index_Address, fun a => D.slices_Index_Address a.1 a.2⟩
noncomputable def v_slices_Index_Address : Env := { ti := look tab, Γ := fns [], loop := fun b => match b with | 0 => some [.slot 8 (.int .i64)] | _ => none, cut := fun _ => none, deep := fun _ => false }
theorem c_slices_Index_Address : Contract Try.prog 218 e_slices_Index_Address.sig e_slices_Index_Address.F :=
  den_is (E := v_slices_Index_Address) ⟨tab_ti, tab_eq⟩ (fns_nil _) mixed Try.func218 (by kernel_rfl) (by kernel_rfl) (fun x => by kernel_rfl)

def s_slices_Contains_Address : Sig := { params := [.val false y73, .val true y93], res := [.val false y4] }
noncomputable def e_slices_Contains_Address : Entry := ⟨s_slices_Contains_Address, fun a => D.slices_Contains_Address a.1 a.2⟩
noncomputable def v_slices_Contains_Address : Env := { ti := look tab, Γ := fns [(218, [], e_slices_Index_Address)], loop := fun _ => none, cut := fun _ => none, deep := fun _ => false }
theorem c_slices_Contains_Address : Contract Try.prog 159 e_slices_Contains_Address.sig e_slices_Contains_Address.F :=
  den_is (E := v_slices_Contains_Address) ⟨tab_ti, tab_eq⟩ (fns_cons c_slices_Index_Address (fns_nil _)) mixed Try.func159 (by kernel_rfl) (by kernel_rfl) (fun x => by kernel_rfl)

def s_slices_Clone_int : Sig := { params := [.val false y24], res := [.row 3 y3 false] }
noncomputable def e_slices_Clone_int : Entry := ⟨s_slices_Clone_int, fun a => D.slices_Clone_int a⟩
noncomputable def v_slices_Clone_int : Env := { ti := look tab, Γ := fns [], loop := fun _ => none, cut := fun _ => none, deep := fun _ => false }
theorem c_slices_Clone_int : Contract Try.prog 232 e_slices_Clone_int.sig e_slices_Clone_int.F :=
  den_is (E := v_slices_Clone_int) ⟨tab_ti, tab_eq⟩ (fns_nil _) mixed Try.func232 (by kernel_rfl) (by kernel_rfl) (fun x => by kernel_rfl)

def s_impl_copyResource : Sig := { params := [.val true y137], res := [.val false y3, .row 3 y3 false, .val false y3, .val false y3, .val false y3], rgroups := [some 5] }
noncomputable def e_impl_copyResource : Entry := ⟨s_impl_copyResource, fun a => D.impl_copyResource a⟩
noncomputable def v_impl_copyResource : Env := { ti := look tab, Γ := fns [(232, [], e_slices_Clone_int)], loop := fun _ => none, cut := fun _ => none, deep := fun _ => false }
theorem c_impl_copyResource : Contract Try.prog 205 e_impl_copyResource.sig e_impl_copyResource.F :=
  den_is (E := v_impl_copyResource) ⟨tab_ti, tab_eq⟩ (fns_cons c_slices_Clone_int (fns_nil _)) mixed Try.func205 (by kernel_rfl) (by kernel_rfl) (fun x => by kernel_rfl)

def s_impl_copyCaptures : Sig := { params := [.val false y58], res := [.row 139 y139 true] }
noncomputable def e_impl_copyCaptures : Entry := ⟨s_impl_copyCaptures, fun a => D.impl_copyCaptures a⟩
noncomputable def v_impl_copyCaptures : Env := { ti := look tab, Γ := fns [(205, [], e_impl_copyResource)], loop := fun b => match b with | 0 => some [.slot 3 (.own 139 y139 true), .slot 8 (.int .i64)] | _ => none, cut := fun _ => none, deep := fun t => Nat.beq t 21 }
theorem c_impl_copyCaptures : Contract Try.prog 129 e_impl_copyCaptures.sig e_impl_copyCaptures.F :=
  den_is (E := v_impl_copyCaptures) ⟨tab_ti, tab_eq⟩ (fns_cons c_impl_copyResource (fns_nil _)) mixed Try.func129 (by kernel_rfl) (by kernel_rfl) (fun x => by kernel_rfl)

def s_slices_Equal_int : Sig := { params := [.val false y24, .val false y24], res := [.val false y4] }
noncomputable def e_slices_Equal_int : Entry := ⟨s_slices_Equal_int, fun a => D.slices_Equal_int a.1 a.2⟩
noncomputable def v_slices_Equal_int : Env := { ti := look tab, Γ := fns [], loop := fun b => match b with | 0 => some [.slot 13 (.int .i64)] | _ => none, cut := fun _ => none, deep := fun _ => false }
theorem c_slices_Equal_int : Contract Try.prog 242 e_slices_Equal_int.sig e_slices_Equal_int.F :=
  den_is (E := v_slices_Equal_int) ⟨tab_ti, tab_eq⟩ (fns_nil _) mixed Try.func242 (by kernel_rfl) (by kernel_rfl) (fun x => by kernel_rfl)

def s_impl_EqualResources : Sig := { params := [.val true y137, .val true y137], res := [.val false y4] }
noncomputable def e_impl_EqualResources : Entry := ⟨s_impl_EqualResources, fun a => D.impl_EqualResources a.1 a.2⟩
noncomputable def v_impl_EqualResources : Env := { ti := look tab, Γ := fns [(242, [], e_slices_Equal_int)], loop := fun _ => none, cut := fun _ => none, deep := fun _ => false }
theorem c_impl_EqualResources : Contract Try.prog 225 e_impl_EqualResources.sig e_impl_EqualResources.F :=
  den_is (E := v_impl_EqualResources) ⟨tab_ti, tab_eq⟩ (fns_cons c_slices_Equal_int (fns_nil _)) mixed Try.func225 (by kernel_rfl) (by kernel_rfl) (fun x => by kernel_rfl)

def s_impl_sameCapture : Sig := { params := [.val true y139, .val true y139], res := [.val false y4] }
noncomputable def e_impl_sameCapture : Entry := ⟨s_impl_sameCapture, fun a => D.impl_sameCapture a.1 a.2⟩
noncomputable def v_impl_sameCapture : Env := { ti := look tab, Γ := fns [(225, [], e_impl_EqualResources)], loop := fun _ => none, cut := fun _ => none, deep := fun _ => false }
theorem c_impl_sameCapture : Contract Try.prog 174 e_impl_sameCapture.sig e_impl_sameCapture.F :=
  den_is (E := v_impl_sameCapture) ⟨tab_ti, tab_eq⟩ (fns_cons c_impl_EqualResources (fns_nil _)) mixed Try.func174 (by kernel_rfl) (by kernel_rfl) (fun x => by kernel_rfl)

def s_impl_hasCapture_1 : Sig := { params := [.val true y139, .cptr y139], res := [.val false y4] }
noncomputable def e_impl_hasCapture_1 : Entry := ⟨s_impl_hasCapture_1, fun a => D.impl_hasCapture_1 a.1 a.2⟩
noncomputable def v_impl_hasCapture_1 : Env := { ti := look tab, Γ := fns [(174, [], e_impl_sameCapture)], loop := fun _ => none, cut := fun _ => none, deep := fun _ => false }
theorem c_impl_hasCapture_1 : Contract Try.prog 224 e_impl_hasCapture_1.sig e_impl_hasCapture_1.F :=
  den_is (E := v_impl_hasCapture_1) ⟨tab_ti, tab_eq⟩ (fns_cons c_impl_sameCapture (fns_nil _)) mixed Try.func224 (by kernel_rfl) (by kernel_rfl) (fun x => by kernel_rfl)

def s_slices_IndexFunc_Capture_impl_hasCapture_1 : Sig := { params := [.val false y58, .fn 224 [y139]], res := [.val false y3] }
noncomputable def e_slices_IndexFunc_Capture_impl_hasCapture_1 : Entry := ⟨s_slices_IndexFunc_Capture_impl_hasCapture_1, fun a => D.slices_IndexFunc_Capture_impl_hasCapture_1 a.1 a.2⟩
noncomputable def v_slices_IndexFunc_Capture_impl_hasCapture_1 : Env := { ti := look tab, Γ := fns [(224, [], e_impl_hasCapture_1)], loop := fun b => match b with | 0 => some [.slot 8 (.int .i64)] | _ => none, cut := fun _ => none, deep := fun _ => false }
theorem c_slices_IndexFunc_Capture_impl_hasCapture_1 : Contract Try.prog 238 e_slices_IndexFunc_Capture_impl_hasCapture_1.sig e_slices_IndexFunc_Capture_impl_hasCapture_1.F :=
  den_is (E := v_slices_IndexFunc_Capture_impl_hasCapture_1) ⟨tab_ti, tab_eq⟩ (fns_cons c_impl_hasCapture_1 (fns_nil _)) mixed Try.func238 (by kernel_rfl) (by kernel_rfl) (fun x => by kernel_rfl)

def s_slices_ContainsFunc_Capture_impl_hasCapture_1 : Sig := { params := [.val false y58, .fn 224 [y139]], res := [.val false y4] }
noncomputable def e_slices_ContainsFunc_Capture_impl_hasCapture_1 : Entry := ⟨s_slices_ContainsFunc_Capture_impl_hasCapture_1, fun a => D.slices_ContainsFunc_Capture_impl_hasCapture_1 a.1 a.2⟩
noncomputable def v_slices_ContainsFunc_Capture_impl_hasCapture_1 : Env := { ti := look tab, Γ := fns [(238, [224], e_slices_IndexFunc_Capture_impl_hasCapture_1)], loop := fun _ => none, cut := fun _ => none, deep := fun _ => false }
theorem c_slices_ContainsFunc_Capture_impl_hasCapture_1 : Contract Try.prog 215 e_slices_ContainsFunc_Capture_impl_hasCapture_1.sig e_slices_ContainsFunc_Capture_impl_hasCapture_1.F :=
  den_is (E := v_slices_ContainsFunc_Capture_impl_hasCapture_1) ⟨tab_ti, tab_eq⟩ (fns_cons c_slices_IndexFunc_Capture_impl_hasCapture_1 (fns_nil _)) mixed Try.func215 (by kernel_rfl) (by kernel_rfl) (fun x => by kernel_rfl)

def s_impl_hasCapture : Sig := { params := [.val false y58, .val true y139], res := [.val false y4] }
noncomputable def e_impl_hasCapture : Entry := ⟨s_impl_hasCapture, fun a => D.impl_hasCapture a.1 a.2⟩
noncomputable def v_impl_hasCapture : Env := { ti := look tab, Γ := fns [(215, [224], e_slices_ContainsFunc_Capture_impl_hasCapture_1)], loop := fun _ => none, cut := fun _ => none, deep := fun _ => false }
theorem c_impl_hasCapture : Contract Try.prog 172 e_impl_hasCapture.sig e_impl_hasCapture.F :=
  den_is (E := v_impl_hasCapture) ⟨tab_ti, tab_eq⟩ (fns_cons c_slices_ContainsFunc_Capture_impl_hasCapture_1 (fns_nil _)) mixed Try.func172 (by kernel_rfl) (by kernel_rfl) (fun x => by kernel_rfl)

def s_impl_AddCaptures : Sig := { params := [.val false y58, .val false y58], res := [.row 139 y139 true, .val false y4] }
noncomputable def e_impl_AddCaptures : Entry := ⟨s_impl_AddCaptures, fun a => D.impl_AddCaptures a.1 a.2⟩
noncomputable def v_impl_AddCaptures : Env := { ti := look tab, Γ := fns [(129, [], e_impl_copyCaptures), (172, [], e_impl_hasCapture), (205, [], e_impl_copyResource), (158, [], e_impl_AreCaptures)], loop := fun b => match b with | 0 => some [.slot 6 (.own 139 y139 true), .slot 13 (.int .i64)] | _ => none, cut := fun _ => none, deep := fun t => Nat.beq t 30 }
theorem c_impl_AddCaptures : Contract Try.prog 160 e_impl_AddCaptures.sig e_impl_AddCaptures.F :=
  den_is (E := v_impl_AddCaptures) ⟨tab_ti, tab_eq⟩ (fns_cons c_impl_copyCaptures (fns_cons c_impl_hasCapture (fns_cons c_impl_copyResource (fns_cons c_impl_AreCaptures (fns_nil _))))) mixed Try.func160 (by kernel_rfl) (by kernel_rfl) (fun x => by kernel_rfl)

def s_impl_MakeEdition : Sig := { params := [.val false y111, .val false y3, .val false y3, .val false y73], res := [.row 139 y139 true, .val false y3, .val false y3, .row 93 y93 false, .val false y4], rgroups := [some 4, none] }
noncomputable def e_impl_MakeEdition : Entry := ⟨s_impl_MakeEdition, fun a => D.impl_MakeEdition a.1 a.2.1 a.2.2.1 a.2.2.2⟩
noncomputable def v_impl_MakeEdition : Env := { ti := look tab, Γ := fns [(156, [], e_impl_InRange), (157, [], e_slices_Clone_Address), (158, [], e_impl_AreCaptures), (159, [], e_slices_Contains_Address), (160, [], e_impl_AddCaptures)], loop := fun b => match b with | 0 => some [.slot 35 (.int .i64), .box 8 [.ro 139 y139, .int .i64, .int .i64, .ro 93 y93], .box 10 [.own 139 y139 true, .int .i64, .int .i64, .own 93 y93 false]] | 2 => some [.slot 13 (.own 139 y139 false), .slot 45 (.int .i64)] | _ => none, cut := fun _ => none, deep := fun _ => false }
theorem c_impl_MakeEdition : Contract Try.prog 77 e_impl_MakeEdition.sig e_impl_MakeEdition.F :=
  den_is (E := v_impl_MakeEdition) ⟨tab_ti, tab_eq⟩ (fns_cons c_impl_InRange (fns_cons c_slices_Clone_Address (fns_cons c_impl_AreCaptures (fns_cons c_slices_Contains_Address (fns_cons c_impl_AddCaptures (fns_nil _)))))) mixed Try.func77 (by kernel_rfl) (by kernel_rfl) (fun x => by kernel_rfl)

def s_laws_eqAddress : Sig := { params := [.val true y93, .val true y93], res := [.val false y4] }
noncomputable def e_laws_eqAddress : Entry := ⟨s_laws_eqAddress, fun a => D.laws_eqAddress a.1 a.2⟩
noncomputable def v_laws_eqAddress : Env := { ti := look tab, Γ := fns [], loop := fun _ => none, cut := fun _ => none, deep := fun _ => false }
theorem c_laws_eqAddress : Contract Try.prog 161 e_laws_eqAddress.sig e_laws_eqAddress.F :=
  den_is (E := v_laws_eqAddress) ⟨tab_ti, tab_eq⟩ (fns_nil _) mixed Try.func161 (by kernel_rfl) (by kernel_rfl) (fun x => by kernel_rfl)

def s_laws_eqIntS : Sig := { params := [.val false y24, .val false y24], res := [.val false y4] }
noncomputable def e_laws_eqIntS : Entry := ⟨s_laws_eqIntS, fun a => D.laws_eqIntS a.1 a.2⟩
noncomputable def v_laws_eqIntS : Env := { ti := look tab, Γ := fns [], loop := fun b => match b with | 0 => some [.slot 5 (.int .i64)] | _ => none, cut := fun _ => none, deep := fun _ => false }
theorem c_laws_eqIntS : Contract Try.prog 17 e_laws_eqIntS.sig e_laws_eqIntS.F :=
  den_is (E := v_laws_eqIntS) ⟨tab_ti, tab_eq⟩ (fns_nil _) mixed Try.func17 (by kernel_rfl) (by kernel_rfl) (fun x => by kernel_rfl)

def s_laws_eqResource : Sig := { params := [.val true y137, .val true y137], res := [.val false y4] }
noncomputable def e_laws_eqResource : Entry := ⟨s_laws_eqResource, fun a => D.laws_eqResource a.1 a.2⟩
noncomputable def v_laws_eqResource : Env := { ti := look tab, Γ := fns [(17, [], e_laws_eqIntS), (161, [], e_laws_eqAddress)], loop := fun _ => none, cut := fun _ => none, deep := fun _ => false }
theorem c_laws_eqResource : Contract Try.prog 206 e_laws_eqResource.sig e_laws_eqResource.F :=
  den_is (E := v_laws_eqResource) ⟨tab_ti, tab_eq⟩ (fns_cons c_laws_eqIntS (fns_cons c_laws_eqAddress (fns_nil _))) mixed Try.func206 (by kernel_rfl) (by kernel_rfl) (fun x => by kernel_rfl)

def s_laws_eqCapture : Sig := { params := [.val true y139, .val true y139], res := [.val false y4] }
noncomputable def e_laws_eqCapture : Entry := ⟨s_laws_eqCapture, fun a => D.laws_eqCapture a.1 a.2⟩
noncomputable def v_laws_eqCapture : Env := { ti := look tab, Γ := fns [(161, [], e_laws_eqAddress), (206, [], e_laws_eqResource)], loop := fun _ => none, cut := fun _ => none, deep := fun _ => false }
theorem c_laws_eqCapture : Contract Try.prog 130 e_laws_eqCapture.sig e_laws_eqCapture.F :=
  den_is (E := v_laws_eqCapture) ⟨tab_ti, tab_eq⟩ (fns_cons c_laws_eqAddress (fns_cons c_laws_eqResource (fns_nil _))) mixed Try.func130 (by kernel_rfl) (by kernel_rfl) (fun x => by kernel_rfl)

def s_laws_eqCaptureS : Sig := { params := [.val false y58, .val false y58], res := [.val false y4] }
noncomputable def e_laws_eqCaptureS : Entry := ⟨s_laws_eqCaptureS, fun a => D.laws_eqCaptureS a.1 a.2⟩
noncomputable def v_laws_eqCaptureS : Env := { ti := look tab, Γ := fns [(130, [], e_laws_eqCapture)], loop := fun b => match b with | 0 => some [.slot 5 (.int .i64)] | _ => none, cut := fun _ => none, deep := fun _ => false }
theorem c_laws_eqCaptureS : Contract Try.prog 46 e_laws_eqCaptureS.sig e_laws_eqCaptureS.F :=
  den_is (E := v_laws_eqCaptureS) ⟨tab_ti, tab_eq⟩ (fns_cons c_laws_eqCapture (fns_nil _)) mixed Try.func46 (by kernel_rfl) (by kernel_rfl) (fun x => by kernel_rfl)

def s_laws_eqAddressS : Sig := { params := [.val false y73, .val false y73], res := [.val false y4] }
noncomputable def e_laws_eqAddressS : Entry := ⟨s_laws_eqAddressS, fun a => D.laws_eqAddressS a.1 a.2⟩
noncomputable def v_laws_eqAddressS : Env := { ti := look tab, Γ := fns [(161, [], e_laws_eqAddress)], loop := fun b => match b with | 0 => some [.slot 5 (.int .i64)] | _ => none, cut := fun _ => none, deep := fun _ => false }
theorem c_laws_eqAddressS : Contract Try.prog 79 e_laws_eqAddressS.sig e_laws_eqAddressS.F :=
  den_is (E := v_laws_eqAddressS) ⟨tab_ti, tab_eq⟩ (fns_cons c_laws_eqAddress (fns_nil _)) mixed Try.func79 (by kernel_rfl) (by kernel_rfl) (fun x => by kernel_rfl)

def s_laws_eqEdition : Sig := { params := [.val true y75, .val true y75], res := [.val false y4] }
noncomputable def e_laws_eqEdition : Entry := ⟨s_laws_eqEdition, fun a => D.laws_eqEdition a.1 a.2⟩
noncomputable def v_laws_eqEdition : Env := { ti := look tab, Γ := fns [(46, [], e_laws_eqCaptureS), (79, [], e_laws_eqAddressS)], loop := fun _ => none, cut := fun _ => none, deep := fun _ => false }
theorem c_laws_eqEdition : Contract Try.prog 55 e_laws_eqEdition.sig e_laws_eqEdition.F :=
  den_is (E := v_laws_eqEdition) ⟨tab_ti, tab_eq⟩ (fns_cons c_laws_eqCaptureS (fns_cons c_laws_eqAddressS (fns_nil _))) mixed Try.func55 (by kernel_rfl) (by kernel_rfl) (fun x => by kernel_rfl)

def s_laws_eqCaptureSS : Sig := { params := [.val false y111, .val false y111], res := [.val false y4] }
noncomputable def e_laws_eqCaptureSS : Entry := ⟨s_laws_eqCaptureSS, fun a => D.laws_eqCaptureSS a.1 a.2⟩
noncomputable def v_laws_eqCaptureSS : Env := { ti := look tab, Γ := fns [(46, [], e_laws_eqCaptureS)], loop := fun b => match b with | 0 => some [.slot 5 (.int .i64)] | _ => none, cut := fun _ => none, deep := fun _ => false }
theorem c_laws_eqCaptureSS : Contract Try.prog 78 e_laws_eqCaptureSS.sig e_laws_eqCaptureSS.F :=
  den_is (E := v_laws_eqCaptureSS) ⟨tab_ti, tab_eq⟩ (fns_cons c_laws_eqCaptureS (fns_nil _)) mixed Try.func78 (by kernel_rfl) (by kernel_rfl) (fun x => by kernel_rfl)

def s_laws_markIntS : Sig := { params := [.io 3 y3, .val false y3], res := [.val false y3] }
noncomputable def e_laws_markIntS : Entry := ⟨s_laws_markIntS, fun a => D.laws_markIntS a.1 a.2⟩
noncomputable def v_laws_markIntS : Env := { ti := look tab, Γ := fns [], loop := fun b => match b with | 0 => some [.slot 1 (.int .i64), .slot 5 (.int .i64), .vec 0 3 y3 true] | _ => none, cut := fun _ => none, deep := fun _ => false }
theorem c_laws_markIntS : Contract Try.prog 20 e_laws_markIntS.sig e_laws_markIntS.F :=
  den_is (E := v_laws_markIntS) ⟨tab_ti, tab_eq⟩ (fns_nil _) mixed Try.func20 (by kernel_rfl) (by kernel_rfl) (fun x => by kernel_rfl)

def s_laws_markCaptureS : Sig := { params := [.io 139 y139, .val false y3], res := [.val false y3] }
noncomputable def e_laws_markCaptureS : Entry := ⟨s_laws_markCaptureS, fun a => D.laws_markCaptureS a.1 a.2⟩
noncomputable def v_laws_markCaptureS : Env := { ti := look tab, Γ := fns [(20, [], e_laws_markIntS)], loop := fun b => match b with | 0 => some [.slot 1 (.int .i64), .slot 5 (.int .i64), .vec 0 139 y139 true] | _ => none, cut := fun _ => none, deep := fun _ => false }
theorem c_laws_markCaptureS : Contract Try.prog 48 e_laws_markCaptureS.sig e_laws_markCaptureS.F :=
  den_is (E := v_laws_markCaptureS) ⟨tab_ti, tab_eq⟩ (fns_cons c_laws_markIntS (fns_nil _)) mixed Try.func48 (by kernel_rfl) (by kernel_rfl) (fun x => by kernel_rfl)

def s_laws_markCaptureSS : Sig := { params := [.io 58 y58, .val false y3], res := [.val false y3] }
noncomputable def e_laws_markCaptureSS : Entry := ⟨s_laws_markCaptureSS, fun a => D.laws_markCaptureSS a.1 a.2⟩
noncomputable def v_laws_markCaptureSS : Env := { ti := look tab, Γ := fns [(48, [], e_laws_markCaptureS)], loop := fun b => match b with | 0 => some [.slot 1 (.int .i64), .slot 5 (.int .i64), .vec 0 58 y58 true] | _ => none, cut := fun _ => none, deep := fun _ => false }
theorem c_laws_markCaptureSS : Contract Try.prog 80 e_laws_markCaptureSS.sig e_laws_markCaptureSS.F :=
  den_is (E := v_laws_markCaptureSS) ⟨tab_ti, tab_eq⟩ (fns_cons c_laws_markCaptureS (fns_nil _)) mixed Try.func80 (by kernel_rfl) (by kernel_rfl) (fun x => by kernel_rfl)

def s_laws_markAddressS : Sig := { params := [.io 93 y93, .val false y3], res := [.val false y3] }
noncomputable def e_laws_markAddressS : Entry := ⟨s_laws_markAddressS, fun a => D.laws_markAddressS a.1 a.2⟩
noncomputable def v_laws_markAddressS : Env := { ti := look tab, Γ := fns [], loop := fun b => match b with | 0 => some [.slot 1 (.int .i64), .slot 5 (.int .i64), .vec 0 93 y93 true] | _ => none, cut := fun _ => none, deep := fun _ => false }
theorem c_laws_markAddressS : Contract Try.prog 81 e_laws_markAddressS.sig e_laws_markAddressS.F :=
  den_is (E := v_laws_markAddressS) ⟨tab_ti, tab_eq⟩ (fns_nil _) mixed Try.func81 (by kernel_rfl) (by kernel_rfl) (fun x => by kernel_rfl)

def s_laws_markEdition : Sig := { params := [.io 139 y139, .val false y3, .val false y3, .io 93 y93, .val false y3], res := [.val false y3], groups := [some 4, none] }
noncomputable def e_laws_markEdition : Entry := ⟨s_laws_markEdition, fun a => D.laws_markEdition a.1 a.2.1 a.2.2.1 a.2.2.2.1 a.2.2.2.2⟩
noncomputable def v_laws_markEdition : Env := { ti := look tab, Γ := fns [(48, [], e_laws_markCaptureS), (81, [], e_laws_markAddressS)], loop := fun _ => none, cut := fun _ => none, deep := fun _ => false }
theorem c_laws_markEdition : Contract Try.prog 56 e_laws_markEdition.sig e_laws_markEdition.F :=
  den_is (E := v_laws_markEdition) ⟨tab_ti, tab_eq⟩ (fns_cons c_laws_markCaptureS (fns_cons c_laws_markAddressS (fns_nil _))) mixed Try.func56 (by kernel_rfl) (by kernel_rfl) (fun x => by kernel_rfl)

def s_laws_heldIntS : Sig := { params := [.val false y24, .val false y3], res := [.val false y3] }
noncomputable def e_laws_heldIntS : Entry := ⟨s_laws_heldIntS, fun a => D.laws_heldIntS a.1 a.2⟩
noncomputable def v_laws_heldIntS : Env := { ti := look tab, Γ := fns [], loop := fun b => match b with | 0 => some [.slot 1 (.int .i64), .slot 5 (.int .i64)] | _ => none, cut := fun _ => none, deep := fun _ => false }
theorem c_laws_heldIntS : Contract Try.prog 21 e_laws_heldIntS.sig e_laws_heldIntS.F :=
  den_is (E := v_laws_heldIntS) ⟨tab_ti, tab_eq⟩ (fns_nil _) mixed Try.func21 (by kernel_rfl) (by kernel_rfl) (fun x => by kernel_rfl)

def s_laws_heldCaptureS : Sig := { params := [.val false y58, .val false y3], res := [.val false y3] }
noncomputable def e_laws_heldCaptureS : Entry := ⟨s_laws_heldCaptureS, fun a => D.laws_heldCaptureS a.1 a.2⟩
noncomputable def v_laws_heldCaptureS : Env := { ti := look tab, Γ := fns [(21, [], e_laws_heldIntS)], loop := fun b => match b with | 0 => some [.slot 1 (.int .i64), .slot 5 (.int .i64)] | _ => none, cut := fun _ => none, deep := fun _ => false }
theorem c_laws_heldCaptureS : Contract Try.prog 50 e_laws_heldCaptureS.sig e_laws_heldCaptureS.F :=
  den_is (E := v_laws_heldCaptureS) ⟨tab_ti, tab_eq⟩ (fns_cons c_laws_heldIntS (fns_nil _)) mixed Try.func50 (by kernel_rfl) (by kernel_rfl) (fun x => by kernel_rfl)

def s_laws_heldAddressS : Sig := { params := [.val false y73, .val false y3], res := [.val false y3] }
noncomputable def e_laws_heldAddressS : Entry := ⟨s_laws_heldAddressS, fun a => D.laws_heldAddressS a.1 a.2⟩
noncomputable def v_laws_heldAddressS : Env := { ti := look tab, Γ := fns [], loop := fun b => match b with | 0 => some [.slot 1 (.int .i64), .slot 5 (.int .i64)] | _ => none, cut := fun _ => none, deep := fun _ => false }
theorem c_laws_heldAddressS : Contract Try.prog 162 e_laws_heldAddressS.sig e_laws_heldAddressS.F :=
  den_is (E := v_laws_heldAddressS) ⟨tab_ti, tab_eq⟩ (fns_nil _) mixed Try.func162 (by kernel_rfl) (by kernel_rfl) (fun x => by kernel_rfl)

def s_laws_heldEdition : Sig := { params := [.val true y75, .val false y3], res := [.val false y3] }
noncomputable def e_laws_heldEdition : Entry := ⟨s_laws_heldEdition, fun a => D.laws_heldEdition a.1 a.2⟩
noncomputable def v_laws_heldEdition : Env := { ti := look tab, Γ := fns [(50, [], e_laws_heldCaptureS), (162, [], e_laws_heldAddressS)], loop := fun _ => none, cut := fun _ => none, deep := fun _ => false }
theorem c_laws_heldEdition : Contract Try.prog 82 e_laws_heldEdition.sig e_laws_heldEdition.F :=
  den_is (E := v_laws_heldEdition) ⟨tab_ti, tab_eq⟩ (fns_cons c_laws_heldCaptureS (fns_cons c_laws_heldAddressS (fns_nil _))) mixed Try.func82 (by kernel_rfl) (by kernel_rfl) (fun x => by kernel_rfl)

def s_laws_FnExactMakeEdition : Sig := { params := [.val false y106, .val false y3, .val false y3, .val false y68], res := [.val false y4] }
noncomputable def e_laws_FnExactMakeEdition : Entry := ⟨s_laws_FnExactMakeEdition, fun a => D.laws_FnExactMakeEdition a.1 a.2.1 a.2.2.1 a.2.2.2⟩
noncomputable def v_laws_FnExactMakeEdition : Env := { ti := look tab, Γ := fns [(72, [], e_laws_szCaptureSS), (73, [], e_laws_szAddressS), (75, [], e_laws_toCaptureSS), (76, [], e_laws_toAddressS), (74, [], e_spec_MakeEdition), (77, [], e_impl_MakeEdition), (55, [], e_laws_eqEdition), (78, [], e_laws_eqCaptureSS), (79, [], e_laws_eqAddressS), (80, [], e_laws_markCaptureSS), (81, [], e_laws_markAddressS), (56, [], e_laws_markEdition), (82, [], e_laws_heldEdition)], loop := fun _ => none, cut := fun _ => none, deep := fun _ => false }
theorem c_laws_FnExactMakeEdition : Contract Try.prog 10 e_laws_FnExactMakeEdition.sig e_laws_FnExactMakeEdition.F :=
  den_is (E := v_laws_FnExactMakeEdition) ⟨tab_ti, tab_eq⟩ (fns_cons c_laws_szCaptureSS (fns_cons c_laws_szAddressS (fns_cons c_laws_toCaptureSS (fns_cons c_laws_toAddressS (fns_cons c_spec_MakeEdition (fns_cons c_impl_MakeEdition (fns_cons c_laws_eqEdition (fns_cons c_laws_eqCaptureSS (fns_cons c_laws_eqAddressS (fns_cons c_laws_markCaptureSS (fns_cons c_laws_markAddressS (fns_cons c_laws_markEdition (fns_cons c_laws_heldEdition (fns_nil _)))))))))))))) mixed Try.func10 (by kernel_rfl) (by kernel_rfl) (fun x => by kernel_rfl)

theorem law_true (a : Tup (s_laws_FnExactMakeEdition.params.map PTy.den)) (hok : argsOk Try.prog s_laws_FnExactMakeEdition.params a) : D.laws_FnExactMakeEdition a.1 a.2.1 a.2.2.1 a.2.2.2 = some true := D.FnExactMakeEdition_true a.1 a.2.1 a.2.2.1 a.2.2.2 (Ty.ok_bd (P := Try.prog) (t := y106) (by kernel_rfl) hok.1) (Ty.ok_bd (P := Try.prog) (t := y3) (by kernel_rfl) hok.2.1) (Ty.ok_bd (P := Try.prog) (t := y3) (by kernel_rfl) hok.2.2.1) (Ty.ok_bd (P := Try.prog) (t := y68) (by kernel_rfl) hok.2.2.2.1)
theorem lifted (os : Os) (started : os.Started) (H : Type) (enc : TypeId × Value → H) :
    ReturnsInHanded {} Try.checked os 10 .any (Rows.fnExactMakeEditionSpec.pre6 enc Try.prog Try.f10 Rows.fnExactMakeEditionRow.domain false) (Rows.fnExactMakeEditionSpec.post enc Try.prog Try.f10 false true false false) := by
  refine returnsInHanded_of_change_sized (C := Try.checked) (by kernel_rfl) started (by kernel_rfl) Try.func10
    (ChangeSpec.witness6 (enc := enc) (C := Try.checked) false ⟨#[], #[.slice none 0 0, .int .i64 0, .int .i64 0, .slice none 0 0], []⟩ 8 (by kernel_rfl) (by kernel_rfl) (by kernel_rfl) (by kernel_rfl)) ?_
  intro W base args ds gs before hval hW hcnd hsz _
  exact law_row (C := Try.checked) rfl c_laws_FnExactMakeEdition (N := 8) (by kernel_rfl) (tb := 4) (by kernel_rfl) (by kernel_rfl) (by kernel_rfl) (by kernel_rfl) rfl
    (fun ds h => by
      have h : ds.length = 4 := h
      match ds, h with
      | [d0, d1, d2, d3], _ => rfl)
    bulky_sizeOf (small := fun _ => True) (fun a ds hok _ _ => ⟨_, law_true a hok, rfl⟩) hval hW hsz trivial

theorem over : Rows.fnExactMakeEditionRow.holds Try.pinned (OpenSpec.ofChange Rows.fnExactMakeEditionSpec) :=
  OpenClaim.holds_of_wide 10 Try.f10 rfl rfl rfl rfl rfl rfl rfl ⟨rfl, rfl, rfl, rfl, rfl⟩ rfl rfl rfl rfl rfl (by kernel_rfl) Try.func10 (by kernel_rfl)
    (of_decide_eq_true (by kernel_rfl)) (by unfold Func.isWrapper; first | (rw [if_pos (by decide +kernel)]; kernel_rfl) | (rw [if_neg (by decide +kernel)]; exact ⟨rfl, rfl⟩))
    (fun os started H enc _ => lifted os started H enc)
end Go.Proofs.Ythmpjemfgejccaa.SxFnExactMakeEdition
namespace Go.Proofs.Ythmpjemfgejccaa
theorem fnExactMakeEdition_holds : Rows.FnExactMakeEditionSaid := SxFnExactMakeEdition.over
end Go.Proofs.Ythmpjemfgejccaa
