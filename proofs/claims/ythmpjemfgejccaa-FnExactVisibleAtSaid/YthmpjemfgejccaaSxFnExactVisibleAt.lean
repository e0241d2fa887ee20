/- FnExactVisibleAt returns true for every input, and each input reads as it did. No condition. -/
import Derived.Test.YthmpjemfgejccaaRows
import Derived.Test.YthmpjemfgejccaaPuFnExactVisibleAt
import Derived.WalkKit
import Derived.ProofKit
import Derived.ShutString
import Derived.SizedLaws
set_option linter.unusedVariables false
set_option maxRecDepth 100000
set_option maxHeartbeats 4000000
namespace Go.Proofs.Ythmpjemfgejccaa.SxFnExactVisibleAt
open Go Go.Sh Go.RowKit
def y3 : Ty := .int .i64
def y4 : Ty := .bool
def y24 : Ty := .slice 3 y3
def y85 : Ty := .pair y3 (.pair y3 y3)
def y173 : Ty := .pair y3 (.pair y24 y85)
def y175 : Ty := .pair y85 (.pair y3 y173)
def y54 : Ty := .slice 175 y175
def y182 : Ty := .pair y3 (.pair y3 (.pair y3 (.pair y3 y3)))
def y55 : Ty := .slice 182 y182
def y93 : Ty := .pair y3 (.pair y3 y3)
def y137 : Ty := .pair y3 (.pair y24 y93)
def y139 : Ty := .pair y93 (.pair y3 y137)
def y58 : Ty := .slice 139 y139
def y180 : Ty := .pair y3 (.pair y3 (.pair y3 (.pair y3 y3)))
def y61 : Ty := .slice 180 y180
def tab : List (TypeId × TI) := [(3, { size := 1, bytes := 8, agg := false, ty := some y3 }),
  (4, { size := 1, bytes := 1, agg := false, ty := some y4 }),
  (24, { size := 1, bytes := 24, agg := false, ty := some y24, elem := some 3 }),
  (85, { size := 3, bytes := 24, agg := true, ty := some y85, fields := [(0, 3), (1, 3), (2, 3)] }),
  (173, { size := 5, bytes := 56, agg := true, ty := some y173, fields := [(0, 3), (1, 24), (2, 85)] }),
  (175, { size := 9, bytes := 88, agg := true, ty := some y175, fields := [(0, 85), (3, 3), (4, 173)] }),
  (54, { size := 1, bytes := 24, agg := false, ty := some y54, elem := some 175 }),
  (182, { size := 5, bytes := 40, agg := true, ty := some y182, fields := [(0, 3), (1, 3), (2, 3), (3, 3), (4, 3)] }),
  (55, { size := 1, bytes := 24, agg := false, ty := some y55, elem := some 182 }),
  (93, { size := 3, bytes := 24, agg := true, ty := some y93, fields := [(0, 3), (1, 3), (2, 3)], eq := true }),
  (137, { size := 5, bytes := 56, agg := true, ty := some y137, fields := [(0, 3), (1, 24), (2, 93)] }),
  (139, { size := 9, bytes := 88, agg := true, ty := some y139, fields := [(0, 93), (3, 3), (4, 137)] }),
  (58, { size := 1, bytes := 24, agg := false, ty := some y58, elem := some 139 }),
  (180, { size := 5, bytes := 40, agg := true, ty := some y180, fields := [(0, 3), (1, 3), (2, 3), (3, 3), (4, 3)] }),
  (61, { size := 1, bytes := 24, agg := false, ty := some y61, elem := some 180 })]
def look : List (TypeId × TI) → TypeId → Option TI
  | [], _ => none
  | (k, i) :: r, t => if Nat.beq t k = true then some i else look r t
theorem look_ok {P : Program} : ∀ {l : List (TypeId × TI)}, (l.all fun p => tiOk P p.1 p.2) = true → ∀ t i, look l t = some i → tiOk P t i = true
  | [], _, t, i, h => by simp [look] at h
  | (k, j) :: r, h0, t, i, h => by
    simp only [List.all_cons, Bool.and_eq_true] at h0
    simp only [look] at h
    split at h
    · rename_i hk
      simp only [Option.some.injEq] at h
      have := Nat.eq_of_beq_eq_true hk
      subst this; subst h; exact h0.1
    · exact look_ok h0.2 t i h
theorem look_eq {P : Program} : ∀ {l : List (TypeId × TI)}, (l.all fun p => !p.2.eq || eqTop P p.1 p.2.ty) = true → ∀ t i, look l t = some i → i.eq = true → ∀ ty, i.ty = some ty → EqLaw P t ty.zero
  | [], _, t, i, h => by simp [look] at h
  | (k, j) :: r, h0, t, i, h => by
    simp only [List.all_cons, Bool.and_eq_true, Bool.or_eq_true, Bool.not_eq_true'] at h0
    simp only [look] at h
    split at h
    · rename_i hk
      simp only [Option.some.injEq] at h
      have := Nat.eq_of_beq_eq_true hk
      subst this; subst h
      intro he
      exact eqLaw_of (h0.1.resolve_left (by simp [he]))
    · exact look_eq h0.2 t i h
def same : List Nat → List Nat → Bool
  | [], [] => true
  | a :: x, b :: y => Nat.beq a b && same x y
  | _, _ => false
theorem same_eq : ∀ {x y : List Nat}, same x y = true → x = y
  | [], [], _ => rfl
  | a :: x, b :: y, h => by
    simp only [same, Bool.and_eq_true] at h
    rw [Nat.eq_of_beq_eq_true h.1, same_eq h.2]
  | [], _ :: _, h => by simp [same] at h
  | _ :: _, [], h => by simp [same] at h
def fns : List (FuncId × List FuncId × Entry) → FuncId → List FuncId → Option Entry
  | [], _, _ => none
  | (k, c, e) :: r, f, fs => if (Nat.beq f k && same fs c) = true then some e else fns r f fs
theorem fns_nil (P : Program) : ∀ f fs en, fns [] f fs = some en → Contract P f en.sig en.F := fun f fs en h => by simp [fns] at h
theorem fns_cons {P : Program} {k : FuncId} {c : List FuncId} {e : Entry} {r : List (FuncId × List FuncId × Entry)} (hk : Contract P k e.sig e.F) (hr : ∀ f fs en, fns r f fs = some en → Contract P f en.sig en.F) : ∀ f fs en, fns ((k, c, e) :: r) f fs = some en → Contract P f en.sig en.F := fun f fs en h => by
  simp only [fns] at h
  split at h
  · rename_i hf
    simp only [Bool.and_eq_true] at hf
    simp only [Option.some.injEq] at h
    have := Nat.eq_of_beq_eq_true hf.1
    subst this; subst h; exact hk
  · exact hr f fs en h

theorem tab_ti : ∀ t i, look tab t = some i → tiOk Try.prog t i = true := look_ok (by kernel_rfl)
theorem tab_eq : ∀ t i, look tab t = some i → i.eq = true → ∀ ty, i.ty = some ty → EqLaw Try.prog t ty.zero := look_eq (by kernel_rfl)
theorem mixed : Try.prog.follows .mixedOrders = true := by kernel_rfl
def s_laws_szIntS : Sig := { params := [.val false y24, .val false y3], res := [.val false y3] }
noncomputable def e_laws_szIntS : Entry := ⟨s_laws_szIntS, fun a => D.laws_szIntS a.1 a.2⟩
noncomputable def v_laws_szIntS : Env := { ti := look tab, Γ := fns [], loop := fun _ => none, cut := fun _ => none, deep := fun _ => false }
theorem c_laws_szIntS : Contract Try.prog 103 e_laws_szIntS.sig e_laws_szIntS.F :=
  den_is (E := v_laws_szIntS) ⟨tab_ti, tab_eq⟩ (fns_nil _) mixed Try.func103 (by kernel_rfl) (by kernel_rfl) (fun x => by kernel_rfl)

def s_laws_szResource : Sig := { params := [.val true y173, .val false y3], res := [.val false y3] }
noncomputable def e_laws_szResource : Entry := ⟨s_laws_szResource, fun a => D.laws_szResource a.1 a.2⟩
noncomputable def v_laws_szResource : Env := { ti := look tab, Γ := fns [(103, [], e_laws_szIntS)], loop := fun _ => none, cut := fun _ => none, deep := fun _ => false }
theorem c_laws_szResource : Contract Try.prog 199 e_laws_szResource.sig e_laws_szResource.F :=
  den_is (E := v_laws_szResource) ⟨tab_ti, tab_eq⟩ (fns_cons c_laws_szIntS (fns_nil _)) mixed Try.func199 (by kernel_rfl) (by kernel_rfl) (fun x => by kernel_rfl)

def s_laws_szCapture : Sig := { params := [.val true y175, .val false y3], res := [.val false y3] }
noncomputable def e_laws_szCapture : Entry := ⟨s_laws_szCapture, fun a => D.laws_szCapture a.1 a.2⟩
noncomputable def v_laws_szCapture : Env := { ti := look tab, Γ := fns [(199, [], e_laws_szResource)], loop := fun _ => none, cut := fun _ => none, deep := fun _ => false }
theorem c_laws_szCapture : Contract Try.prog 121 e_laws_szCapture.sig e_laws_szCapture.F :=
  den_is (E := v_laws_szCapture) ⟨tab_ti, tab_eq⟩ (fns_cons c_laws_szResource (fns_nil _)) mixed Try.func121 (by kernel_rfl) (by kernel_rfl) (fun x => by kernel_rfl)

def s_laws_szCaptureS : Sig := { params := [.val false y54, .val false y3], res := [.val false y3] }
noncomputable def e_laws_szCaptureS : Entry := ⟨s_laws_szCaptureS, fun a => D.laws_szCaptureS a.1 a.2⟩
noncomputable def v_laws_szCaptureS : Env := { ti := look tab, Γ := fns [(121, [], e_laws_szCapture)], loop := fun b => match b with | 0 => some [.slot 1 (.int .i64), .slot 5 (.int .i64)] | _ => none, cut := fun _ => none, deep := fun _ => false }
theorem c_laws_szCaptureS : Contract Try.prog 40 e_laws_szCaptureS.sig e_laws_szCaptureS.F :=
  den_is (E := v_laws_szCaptureS) ⟨tab_ti, tab_eq⟩ (fns_cons c_laws_szCapture (fns_nil _)) mixed Try.func40 (by kernel_rfl) (by kernel_rfl) (fun x => by kernel_rfl)

def s_laws_szExclusionS : Sig := { params := [.val false y55, .val false y3], res := [.val false y3] }
noncomputable def e_laws_szExclusionS : Entry := ⟨s_laws_szExclusionS, fun a => D.laws_szExclusionS a.1 a.2⟩
noncomputable def v_laws_szExclusionS : Env := { ti := look tab, Γ := fns [], loop := fun _ => none, cut := fun _ => none, deep := fun _ => false }
theorem c_laws_szExclusionS : Contract Try.prog 41 e_laws_szExclusionS.sig e_laws_szExclusionS.F :=
  den_is (E := v_laws_szExclusionS) ⟨tab_ti, tab_eq⟩ (fns_nil _) mixed Try.func41 (by kernel_rfl) (by kernel_rfl) (fun x => by kernel_rfl)

def s_laws_toAddress : Sig := { params := [.val true y85], res := [.val true y93] }
noncomputable def e_laws_toAddress : Entry := ⟨s_laws_toAddress, fun a => D.laws_toAddress a⟩
noncomputable def v_laws_toAddress : Env := { ti := look tab, Γ := fns [], loop := fun _ => none, cut := fun _ => none, deep := fun _ => false }
theorem c_laws_toAddress : Contract Try.prog 60 e_laws_toAddress.sig e_laws_toAddress.F :=
  den_is (E := v_laws_toAddress) ⟨tab_ti, tab_eq⟩ (fns_nil _) mixed Try.func60 (by kernel_rfl) (by kernel_rfl) (fun x => by kernel_rfl)

def s_laws_toIntS : Sig := { params := [.val false y24], res := [.row 3 y3 false] }
noncomputable def e_laws_toIntS : Entry := ⟨s_laws_toIntS, fun a => D.laws_toIntS a⟩
noncomputable def v_laws_toIntS : Env := { ti := look tab, Γ := fns [], loop := fun b => match b with | 0 => some [.slot 4 (.int .i64), .vec 3 3 y3 false] | _ => none, cut := fun _ => none, deep := fun _ => false }
theorem c_laws_toIntS : Contract Try.prog 111 e_laws_toIntS.sig e_laws_toIntS.F :=
  den_is (E := v_laws_toIntS) ⟨tab_ti, tab_eq⟩ (fns_nil _) mixed Try.func111 (by kernel_rfl) (by kernel_rfl) (fun x => by kernel_rfl)

def s_laws_toResource : Sig := { params := [.val true y173], res := [.val false y3, .row 3 y3 false, .val false y3, .val false y3, .val false y3], rgroups := [some 5] }
noncomputable def e_laws_toResource : Entry := ⟨s_laws_toResource, fun a => D.laws_toResource a⟩
noncomputable def v_laws_toResource : Env := { ti := look tab, Γ := fns [(111, [], e_laws_toIntS), (60, [], e_laws_toAddress)], loop := fun _ => none, cut := fun _ => none, deep := fun _ => false }
theorem c_laws_toResource : Contract Try.prog 202 e_laws_toResource.sig e_laws_toResource.F :=
  den_is (E := v_laws_toResource) ⟨tab_ti, tab_eq⟩ (fns_cons c_laws_toIntS (fns_cons c_laws_toAddress (fns_nil _))) mixed Try.func202 (by kernel_rfl) (by kernel_rfl) (fun x => by kernel_rfl)

def s_laws_toCapture : Sig := { params := [.val true y175], res := [.val false y3, .val false y3, .val false y3, .val false y3, .val false y3, .row 3 y3 false, .val false y3, .val false y3, .val false y3], rgroups := [some 9] }
noncomputable def e_laws_toCapture : Entry := ⟨s_laws_toCapture, fun a => D.laws_toCapture a⟩
noncomputable def v_laws_toCapture : Env := { ti := look tab, Γ := fns [(60, [], e_laws_toAddress), (202, [], e_laws_toResource)], loop := fun _ => none, cut := fun _ => none, deep := fun _ => false }
theorem c_laws_toCapture : Contract Try.prog 124 e_laws_toCapture.sig e_laws_toCapture.F :=
  den_is (E := v_laws_toCapture) ⟨tab_ti, tab_eq⟩ (fns_cons c_laws_toAddress (fns_cons c_laws_toResource (fns_nil _))) mixed Try.func124 (by kernel_rfl) (by kernel_rfl) (fun x => by kernel_rfl)

def s_laws_toCaptureS : Sig := { params := [.val false y54], res := [.row 139 y139 true] }
noncomputable def e_laws_toCaptureS : Entry := ⟨s_laws_toCaptureS, fun a => D.laws_toCaptureS a⟩
noncomputable def v_laws_toCaptureS : Env := { ti := look tab, Γ := fns [(124, [], e_laws_toCapture)], loop := fun b => match b with | 0 => some [.slot 4 (.int .i64), .vec 3 139 y139 true] | _ => none, cut := fun _ => none, deep := fun t => Nat.beq t 7 }
theorem c_laws_toCaptureS : Contract Try.prog 43 e_laws_toCaptureS.sig e_laws_toCaptureS.F :=
  den_is (E := v_laws_toCaptureS) ⟨tab_ti, tab_eq⟩ (fns_cons c_laws_toCapture (fns_nil _)) mixed Try.func43 (by kernel_rfl) (by kernel_rfl) (fun x => by kernel_rfl)

def s_laws_toExclusion : Sig := { params := [.val true y182], res := [.val true y180] }
noncomputable def e_laws_toExclusion : Entry := ⟨s_laws_toExclusion, fun a => D.laws_toExclusion a⟩
noncomputable def v_laws_toExclusion : Env := { ti := look tab, Γ := fns [], loop := fun _ => none, cut := fun _ => none, deep := fun _ => false }
theorem c_laws_toExclusion : Contract Try.prog 125 e_laws_toExclusion.sig e_laws_toExclusion.F :=
  den_is (E := v_laws_toExclusion) ⟨tab_ti, tab_eq⟩ (fns_nil _) mixed Try.func125 (by kernel_rfl) (by kernel_rfl) (fun x => by kernel_rfl)

def s_laws_toExclusionS : Sig := { params := [.val false y55], res := [.row 180 y180 false] }
noncomputable def e_laws_toExclusionS : Entry := ⟨s_laws_toExclusionS, fun a => D.laws_toExclusionS a⟩
noncomputable def v_laws_toExclusionS : Env := { ti := look tab, Γ := fns [(125, [], e_laws_toExclusion)], loop := fun b => match b with | 0 => some [.slot 4 (.int .i64), .vec 3 180 y180 false] | _ => none, cut := fun _ => none, deep := fun _ => false }
theorem c_laws_toExclusionS : Contract Try.prog 44 e_laws_toExclusionS.sig e_laws_toExclusionS.F :=
  den_is (E := v_laws_toExclusionS) ⟨tab_ti, tab_eq⟩ (fns_cons c_laws_toExclusion (fns_nil _)) mixed Try.func44 (by kernel_rfl) (by kernel_rfl) (fun x => by kernel_rfl)

def s_spec_l1In : Sig := { params := [.val false y3, .val false y3, .val false y3], res := [.val false y4] }
noncomputable def e_spec_l1In : Entry := ⟨s_spec_l1In, fun a => D.spec_l1In a.1 a.2.1 a.2.2⟩
noncomputable def v_spec_l1In : Env := { ti := look tab, Γ := fns [], loop := fun _ => none, cut := fun _ => none, deep := fun _ => false }
theorem c_spec_l1In : Contract Try.prog 152 e_spec_l1In.sig e_spec_l1In.F :=
  den_is (E := v_spec_l1In) ⟨tab_ti, tab_eq⟩ (fns_nil _) mixed Try.func152 (by kernel_rfl) (by kernel_rfl) (fun x => by kernel_rfl)

def s_spec_IsExclusion : Sig := { params := [.val true y180], res := [.val false y4] }
noncomputable def e_spec_IsExclusion : Entry := ⟨s_spec_IsExclusion, fun a => D.spec_IsExclusion a⟩
noncomputable def v_spec_IsExclusion : Env := { ti := look tab, Γ := fns [(152, [], e_spec_l1In)], loop := fun _ => none, cut := fun _ => none, deep := fun _ => false }
theorem c_spec_IsExclusion : Contract Try.prog 244 e_spec_IsExclusion.sig e_spec_IsExclusion.F :=
  den_is (E := v_spec_IsExclusion) ⟨tab_ti, tab_eq⟩ (fns_cons c_spec_l1In (fns_nil _)) mixed Try.func244 (by kernel_rfl) (by kernel_rfl) (fun x => by kernel_rfl)

def s_spec_l25Meets : Sig := { params := [.val true y180, .val true y139], res := [.val false y4] }
noncomputable def e_spec_l25Meets : Entry := ⟨s_spec_l25Meets, fun a => D.spec_l25Meets a.1 a.2⟩
noncomputable def v_spec_l25Meets : Env := { ti := look tab, Γ := fns [(244, [], e_spec_IsExclusion), (152, [], e_spec_l1In)], loop := fun _ => none, cut := fun _ => none, deep := fun _ => false }
theorem c_spec_l25Meets : Contract Try.prog 234 e_spec_l25Meets.sig e_spec_l25Meets.F :=
  den_is (E := v_spec_l25Meets) ⟨tab_ti, tab_eq⟩ (fns_cons c_spec_IsExclusion (fns_cons c_spec_l1In (fns_nil _))) mixed Try.func234 (by kernel_rfl) (by kernel_rfl) (fun x => by kernel_rfl)

def s_spec_IsHiddenBy : Sig := { params := [.val true y180, .val true y139, .val false y3], res := [.val false y4] }
noncomputable def e_spec_IsHiddenBy : Entry := ⟨s_spec_IsHiddenBy, fun a => D.spec_IsHiddenBy a.1 a.2.1 a.2.2⟩
noncomputable def v_spec_IsHiddenBy : Env := { ti := look tab, Γ := fns [(234, [], e_spec_l25Meets)], loop := fun _ => none, cut := fun _ => none, deep := fun _ => false }
theorem c_spec_IsHiddenBy : Contract Try.prog 200 e_spec_IsHiddenBy.sig e_spec_IsHiddenBy.F :=
  den_is (E := v_spec_IsHiddenBy) ⟨tab_ti, tab_eq⟩ (fns_cons c_spec_l25Meets (fns_nil _)) mixed Try.func200 (by kernel_rfl) (by kernel_rfl) (fun x => by kernel_rfl)

def s_spec_l25Hidden : Sig := { params := [.val true y139, .val false y61, .val false y3], res := [.val false y4] }
noncomputable def e_spec_l25Hidden : Entry := ⟨s_spec_l25Hidden, fun a => D.spec_l25Hidden a.1 a.2.1 a.2.2⟩
noncomputable def v_spec_l25Hidden : Env := { ti := look tab, Γ := fns [(200, [], e_spec_IsHiddenBy)], loop := fun b => match b with | 0 => some [.slot 7 (.int .i64)] | _ => none, cut := fun _ => none, deep := fun _ => false }
theorem c_spec_l25Hidden : Contract Try.prog 122 e_spec_l25Hidden.sig e_spec_l25Hidden.F :=
  den_is (E := v_spec_l25Hidden) ⟨tab_ti, tab_eq⟩ (fns_cons c_spec_IsHiddenBy (fns_nil _)) mixed Try.func122 (by kernel_rfl) (by kernel_rfl) (fun x => by kernel_rfl)

def s_spec_l5Copy : Sig := { params := [.val true y137], res := [.val false y3, .row 3 y3 false, .val false y3, .val false y3, .val false y3], rgroups := [some 5] }
noncomputable def e_spec_l5Copy : Entry := ⟨s_spec_l5Copy, fun a => D.spec_l5Copy a⟩
noncomputable def v_spec_l5Copy : Env := { ti := look tab, Γ := fns [], loop := fun _ => none, cut := fun _ => none, deep := fun _ => false }
theorem c_spec_l5Copy : Contract Try.prog 201 e_spec_l5Copy.sig e_spec_l5Copy.F :=
  den_is (E := v_spec_l5Copy) ⟨tab_ti, tab_eq⟩ (fns_nil _) mixed Try.func201 (by kernel_rfl) (by kernel_rfl) (fun x => by kernel_rfl)

def s_spec_l15Copy : Sig := { params := [.val false y58], res := [.row 139 y139 true] }
noncomputable def e_spec_l15Copy : Entry := ⟨s_spec_l15Copy, fun a => D.spec_l15Copy a⟩
noncomputable def v_spec_l15Copy : Env := { ti := look tab, Γ := fns [(201, [], e_spec_l5Copy)], loop := fun b => match b with | 0 => some [.slot 3 (.own 139 y139 true), .slot 4 (.int .i64)] | _ => none, cut := fun _ => none, deep := fun t => Nat.beq t 5 || Nat.beq t 30 }
theorem c_spec_l15Copy : Contract Try.prog 123 e_spec_l15Copy.sig e_spec_l15Copy.F :=
  den_is (E := v_spec_l15Copy) ⟨tab_ti, tab_eq⟩ (fns_cons c_spec_l5Copy (fns_nil _)) mixed Try.func123 (by kernel_rfl) (by kernel_rfl) (fun x => by kernel_rfl)

def s_spec_VisibleAt : Sig := { params := [.val false y58, .val false y61, .val false y3], res := [.row 139 y139 true] }
noncomputable def e_spec_VisibleAt : Entry := ⟨s_spec_VisibleAt, fun a => D.spec_VisibleAt a.1 a.2.1 a.2.2⟩
noncomputable def v_spec_VisibleAt : Env := { ti := look tab, Γ := fns [(122, [], e_spec_l25Hidden), (123, [], e_spec_l15Copy)], loop := fun b => match b with | 0 => some [.slot 7 (.own 139 y139 true), .slot 8 (.int .i64)] | _ => none, cut := fun _ => none, deep := fun t => Nat.beq t 9 }
theorem c_spec_VisibleAt : Contract Try.prog 42 e_spec_VisibleAt.sig e_spec_VisibleAt.F :=
  den_is (E := v_spec_VisibleAt) ⟨tab_ti, tab_eq⟩ (fns_cons c_spec_l25Hidden (fns_cons c_spec_l15Copy (fns_nil _))) mixed Try.func42 (by kernel_rfl) (by kernel_rfl) (fun x => by kernel_rfl)

def s_impl_InRange : Sig := { params := [.val false y3, .val false y3, .val false y3], res := [.val false y4] }
noncomputable def e_impl_InRange : Entry := ⟨s_impl_InRange, fun a => D.impl_InRange a.1 a.2.1 a.2.2⟩
noncomputable def v_impl_InRange : Env := { ti := look tab, Γ := fns [], loop := fun _ => none, cut := fun _ => none, deep := fun _ => false }
theorem c_impl_InRange : Contract Try.prog 156 e_impl_InRange.sig e_impl_InRange.F :=
  den_is (E := v_impl_InRange) ⟨tab_ti, tab_eq⟩ (fns_nil _) mixed Try.func156 (by kernel_rfl) (by kernel_rfl) (fun x => by kernel_rfl)

def s_impl_IsExclusion : Sig := { params := [.val true y180], res := [.val false y4] }
noncomputable def e_impl_IsExclusion : Entry := ⟨s_impl_IsExclusion, fun a => D.impl_IsExclusion a⟩
noncomputable def v_impl_IsExclusion : Env := { ti := look tab, Γ := fns [(156, [], e_impl_InRange)], loop := fun _ => none, cut := fun _ => none, deep := fun _ => false }
theorem c_impl_IsExclusion : Contract Try.prog 235 e_impl_IsExclusion.sig e_impl_IsExclusion.F :=
  den_is (E := v_impl_IsExclusion) ⟨tab_ti, tab_eq⟩ (fns_cons c_impl_InRange (fns_nil _)) mixed Try.func235 (by kernel_rfl) (by kernel_rfl) (fun x => by kernel_rfl)

def s_impl_Exclusion_hides : Sig := { params := [.val true y180, .val true y139], res := [.val false y4] }
noncomputable def e_impl_Exclusion_hides : Entry := ⟨s_impl_Exclusion_hides, fun a => D.impl_Exclusion_hides a.1 a.2⟩
noncomputable def v_impl_Exclusion_hides : Env := { ti := look tab, Γ := fns [(235, [], e_impl_IsExclusion), (156, [], e_impl_InRange)], loop := fun _ => none, cut := fun _ => none, deep := fun _ => false }
theorem c_impl_Exclusion_hides : Contract Try.prog 204 e_impl_Exclusion_hides.sig e_impl_Exclusion_hides.F :=
  den_is (E := v_impl_Exclusion_hides) ⟨tab_ti, tab_eq⟩ (fns_cons c_impl_IsExclusion (fns_cons c_impl_InRange (fns_nil _))) mixed Try.func204 (by kernel_rfl) (by kernel_rfl) (fun x => by kernel_rfl)

def s_impl_IsHiddenBy : Sig := { params := [.val true y180, .val true y139, .val false y3], res := [.val false y4] }
noncomputable def e_impl_IsHiddenBy : Entry := ⟨s_impl_IsHiddenBy, fun a => D.impl_IsHiddenBy a.1 a.2.1 a.2.2⟩
noncomputable def v_impl_IsHiddenBy : Env := { ti := look tab, Γ := fns [(204, [], e_impl_Exclusion_hides)], loop := fun _ => none, cut := fun _ => none, deep := fun _ => false }
theorem c_impl_IsHiddenBy : Contract Try.prog 128 e_impl_IsHiddenBy.sig e_impl_IsHiddenBy.F :=
  den_is (E := v_impl_IsHiddenBy) ⟨tab_ti, tab_eq⟩ (fns_cons c_impl_Exclusion_hides (fns_nil _)) mixed Try.func128 (by kernel_rfl) (by kernel_rfl) (fun x => by kernel_rfl)

def s_impl_VisibleAt_1 : Sig := { params := [.val true y180, .cptr y139, .cptr y3], res := [.val false y4] }
noncomputable def e_impl_VisibleAt_1 : Entry := ⟨s_impl_VisibleAt_1, fun a => D.impl_VisibleAt_1 a.1 a.2.1 a.2.2⟩
noncomputable def v_impl_VisibleAt_1 : Env := { ti := look tab, Γ := fns [(128, [], e_impl_IsHiddenBy)], loop := fun _ => none, cut := fun _ => none, deep := fun _ => false }
theorem c_impl_VisibleAt_1 : Contract Try.prog 127 e_impl_VisibleAt_1.sig e_impl_VisibleAt_1.F :=
  den_is (E := v_impl_VisibleAt_1) ⟨tab_ti, tab_eq⟩ (fns_cons c_impl_IsHiddenBy (fns_nil _)) mixed Try.func127 (by kernel_rfl) (by kernel_rfl) (fun x => by kernel_rfl)

def s_slices_IndexFunc_Exclusion_impl_VisibleAt_1 : Sig := { params := [.val false y61, .fn 127 [y139, y3]], res := [.val false y3] }
noncomputable def e_slices_IndexFunc_Exclusion_impl_VisibleAt_1 : Entry := ⟨s_slices_IndexFunc_Exclusion_impl_VisibleAt_1, fun a => D.slices_IndexFunc_Exclusion_impl_VisibleAt_1 a.1 a.2⟩
noncomputable def v_slices_IndexFunc_Exclusion_impl_VisibleAt_1 : Env := { ti := look tab, Γ := fns [(127, [], e_impl_VisibleAt_1)], loop := fun b => match b with | 0 => some [.slot 8 (.int .i64)] | _ => none, cut := fun _ => none, deep := fun _ => false }
theorem c_slices_IndexFunc_Exclusion_impl_VisibleAt_1 : Contract Try.prog 203 e_slices_IndexFunc_Exclusion_impl_VisibleAt_1.sig e_slices_IndexFunc_Exclusion_impl_VisibleAt_1.F :=
  den_is (E := v_slices_IndexFunc_Exclusion_impl_VisibleAt_1) ⟨tab_ti, tab_eq⟩ (fns_cons c_impl_VisibleAt_1 (fns_nil _)) mixed Try.func203 (by kernel_rfl) (by kernel_rfl) (fun x => by kernel_rfl)

def s_slices_ContainsFunc_Exclusion_impl_VisibleAt_1 : Sig := { params := [.val false y61, .fn 127 [y139, y3]], res := [.val false y4] }
noncomputable def e_slices_ContainsFunc_Exclusion_impl_VisibleAt_1 : Entry := ⟨s_slices_ContainsFunc_Exclusion_impl_VisibleAt_1, fun a => D.slices_ContainsFunc_Exclusion_impl_VisibleAt_1 a.1 a.2⟩
noncomputable def v_slices_ContainsFunc_Exclusion_impl_VisibleAt_1 : Env := { ti := look tab, Γ := fns [(203, [127], e_slices_IndexFunc_Exclusion_impl_VisibleAt_1)], loop := fun _ => none, cut := fun _ => none, deep := fun _ => false }
theorem c_slices_ContainsFunc_Exclusion_impl_VisibleAt_1 : Contract Try.prog 126 e_slices_ContainsFunc_Exclusion_impl_VisibleAt_1.sig e_slices_ContainsFunc_Exclusion_impl_VisibleAt_1.F :=
  den_is (E := v_slices_ContainsFunc_Exclusion_impl_VisibleAt_1) ⟨tab_ti, tab_eq⟩ (fns_cons c_slices_IndexFunc_Exclusion_impl_VisibleAt_1 (fns_nil _)) mixed Try.func126 (by kernel_rfl) (by kernel_rfl) (fun x => by kernel_rfl)

def s_slices_Clone_int : Sig := { params := [.val false y24], res := [.row 3 y3 false] }
noncomputable def e_slices_Clone_int : Entry := ⟨s_slices_Clone_int, fun a => D.slices_Clone_int a⟩
noncomputable def v_slices_Clone_int : Env := { ti := look tab, Γ := fns [], loop := fun _ => none, cut := fun _ => none, deep := fun _ => false }
theorem c_slices_Clone_int : Contract Try.prog 232 e_slices_Clone_int.sig e_slices_Clone_int.F :=
  den_is (E := v_slices_Clone_int) ⟨tab_ti, tab_eq⟩ (fns_nil _) mixed Try.func232 (by kernel_rfl) (by kernel_rfl) (fun x => by kernel_rfl)

def s_impl_copyResource : Sig := { params := [.val true y137], res := [.val false y3, .row 3 y3 false, .val false y3, .val false y3, .val false y3], rgroups := [some 5] }
noncomputable def e_impl_copyResource : Entry := ⟨s_impl_copyResource, fun a => D.impl_copyResource a⟩
noncomputable def v_impl_copyResource : Env := { ti := look tab, Γ := fns [(232, [], e_slices_Clone_int)], loop := fun _ => none, cut := fun _ => none, deep := fun _ => false }
theorem c_impl_copyResource : Contract Try.prog 205 e_impl_copyResource.sig e_impl_copyResource.F :=
  den_is (E := v_impl_copyResource) ⟨tab_ti, tab_eq⟩ (fns_cons c_slices_Clone_int (fns_nil _)) mixed Try.func205 (by kernel_rfl) (by kernel_rfl) (fun x => by kernel_rfl)

def s_impl_copyCaptures : Sig := { params := [.val false y58], res := [.row 139 y139 true] }
noncomputable def e_impl_copyCaptures : Entry := ⟨s_impl_copyCaptures, fun a => D.impl_copyCaptures a⟩
noncomputable def v_impl_copyCaptures : Env := { ti := look tab, Γ := fns [(205, [], e_impl_copyResource)], loop := fun b => match b with | 0 => some [.slot 3 (.own 139 y139 true), .slot 8 (.int .i64)] | _ => none, cut := fun _ => none, deep := fun t => Nat.beq t 21 }
theorem c_impl_copyCaptures : Contract Try.prog 129 e_impl_copyCaptures.sig e_impl_copyCaptures.F :=
  den_is (E := v_impl_copyCaptures) ⟨tab_ti, tab_eq⟩ (fns_cons c_impl_copyResource (fns_nil _)) mixed Try.func129 (by kernel_rfl) (by kernel_rfl) (fun x => by kernel_rfl)

def s_impl_VisibleAt : Sig := { params := [.val false y58, .val false y61, .val false y3], res := [.row 139 y139 true] }
noncomputable def e_impl_VisibleAt : Entry := ⟨s_impl_VisibleAt, fun a => D.impl_VisibleAt a.1 a.2.1 a.2.2⟩
noncomputable def v_impl_VisibleAt : Env := { ti := look tab, Γ := fns [(126, [127], e_slices_ContainsFunc_Exclusion_impl_VisibleAt_1), (129, [], e_impl_copyCaptures)], loop := fun b => match b with | 0 => some [.slot 7 (.own 139 y139 false), .slot 12 (.int .i64)] | _ => none, cut := fun _ => none, deep := fun _ => false }
theorem c_impl_VisibleAt : Contract Try.prog 45 e_impl_VisibleAt.sig e_impl_VisibleAt.F :=
  den_is (E := v_impl_VisibleAt) ⟨tab_ti, tab_eq⟩ (fns_cons c_slices_ContainsFunc_Exclusion_impl_VisibleAt_1 (fns_cons c_impl_copyCaptures (fns_nil _))) mixed Try.func45 (by kernel_rfl) (by kernel_rfl) (fun x => by kernel_rfl)

def s_laws_eqAddress : Sig := { params := [.val true y93, .val true y93], res := [.val false y4] }
noncomputable def e_laws_eqAddress : Entry := ⟨s_laws_eqAddress, fun a => D.laws_eqAddress a.1 a.2⟩
noncomputable def v_laws_eqAddress : Env := { ti := look tab, Γ := fns [], loop := fun _ => none, cut := fun _ => none, deep := fun _ => false }
theorem c_laws_eqAddress : Contract Try.prog 161 e_laws_eqAddress.sig e_laws_eqAddress.F :=
  den_is (E := v_laws_eqAddress) ⟨tab_ti, tab_eq⟩ (fns_nil _) mixed Try.func161 (by kernel_rfl) (by kernel_rfl) (fun x => by kernel_rfl)

def s_laws_eqIntS : Sig := { params := [.val false y24, .val false y24], res := [.val false y4] }
noncomputable def e_laws_eqIntS : Entry := ⟨s_laws_eqIntS, fun a => D.laws_eqIntS a.1 a.2⟩
noncomputable def v_laws_eqIntS : Env := { ti := look tab, Γ := fns [], loop := fun b => match b with | 0 => some [.slot 5 (.int .i64)] | _ => none, cut := fun _ => none, deep := fun _ => false }
theorem c_laws_eqIntS : Contract Try.prog 17 e_laws_eqIntS.sig e_laws_eqIntS.F :=
  den_is (E := v_laws_eqIntS) ⟨tab_ti, tab_eq⟩ (fns_nil _) mixed Try.func17 (by kernel_rfl) (by kernel_rfl) (fun x => by kernel_rfl)

def s_laws_eqResource : Sig := { params := [.val true y137, .val true y137], res := [.val false y4] }
noncomputable def e_laws_eqResource : Entry := ⟨s_laws_eqResource, fun a => D.laws_eqResource a.1 a.2⟩
noncomputable def v_laws_eqResource : Env := { ti := look tab, Γ := fns [(17, [], e_laws_eqIntS), (161, [], e_laws_eqAddress)], loop := fun _ => none, cut := fun _ => none, deep := fun _ => false }
theorem c_laws_eqResource : Contract Try.prog 206 e_laws_eqResource.sig e_laws_eqResource.F :=
  den_is (E := v_laws_eqResource) ⟨tab_ti, tab_eq⟩ (fns_cons c_laws_eqIntS (fns_cons c_laws_eqAddress (fns_nil _))) mixed Try.func206 (by kernel_rfl) (by kernel_rfl) (fun x => by kernel_rfl)

def s_laws_eqCapture : Sig := { params := [.val true y139, .val true y139], res := [.val false y4] }
noncomputable def e_laws_eqCapture : Entry := ⟨s_laws_eqCapture, fun a => D.laws_eqCapture a.1 a.2⟩
noncomputable def v_laws_eqCapture : Env := { ti := look tab, Γ := fns [(161, [], e_laws_eqAddress), (206, [], e_laws_eqResource)], loop := fun _ => none, cut := fun _ => none, deep := fun _ => false }
theorem c_laws_eqCapture : Contract Try.prog 130 e_laws_eqCapture.sig e_laws_eqCapture.F :=
  den_is (E := v_laws_eqCapture) ⟨tab_ti, tab_eq⟩ (fns_cons c_laws_eqAddress (fns_cons c_laws_eqResource (fns_nil _))) mixed Try.func130 (by kernel_rfl) (by kernel_rfl) (fun x => by kernel_rfl)

def s_laws_eqCaptureS : Sig := { params := [.val false y58, .val false y58], res := [.val false y4] }
noncomputable def e_laws_eqCaptureS : Entry := ⟨s_laws_eqCaptureS, fun a => D.laws_eqCaptureS a.1 a.2⟩
noncomputable def v_laws_eqCaptureS : Env := { ti := look tab, Γ := fns [(130, [], e_laws_eqCapture)], loop := fun b => match b with | 0 => some [.slot 5 (.int .i64)] | _ => none, cut := fun _ => none, deep := fun _ => false }
theorem c_laws_eqCaptureS : Contract Try.prog 46 e_laws_eqCaptureS.sig e_laws_eqCaptureS.F :=
  den_is (E := v_laws_eqCaptureS) ⟨tab_ti, tab_eq⟩ (fns_cons c_laws_eqCapture (fns_nil _)) mixed Try.func46 (by kernel_rfl) (by kernel_rfl) (fun x => by kernel_rfl)

def s_laws_eqExclusion : Sig := { params := [.val true y180, .val true y180], res := [.val false y4] }
noncomputable def e_laws_eqExclusion : Entry := ⟨s_laws_eqExclusion, fun a => D.laws_eqExclusion a.1 a.2⟩
noncomputable def v_laws_eqExclusion : Env := { ti := look tab, Γ := fns [], loop := fun _ => none, cut := fun _ => none, deep := fun _ => false }
theorem c_laws_eqExclusion : Contract Try.prog 131 e_laws_eqExclusion.sig e_laws_eqExclusion.F :=
  den_is (E := v_laws_eqExclusion) ⟨tab_ti, tab_eq⟩ (fns_nil _) mixed Try.func131 (by kernel_rfl) (by kernel_rfl) (fun x => by kernel_rfl)

def s_laws_eqExclusionS : Sig := { params := [.val false y61, .val false y61], res := [.val false y4] }
noncomputable def e_laws_eqExclusionS : Entry := ⟨s_laws_eqExclusionS, fun a => D.laws_eqExclusionS a.1 a.2⟩
noncomputable def v_laws_eqExclusionS : Env := { ti := look tab, Γ := fns [(131, [], e_laws_eqExclusion)], loop := fun b => match b with | 0 => some [.slot 5 (.int .i64)] | _ => none, cut := fun _ => none, deep := fun _ => false }
theorem c_laws_eqExclusionS : Contract Try.prog 47 e_laws_eqExclusionS.sig e_laws_eqExclusionS.F :=
  den_is (E := v_laws_eqExclusionS) ⟨tab_ti, tab_eq⟩ (fns_cons c_laws_eqExclusion (fns_nil _)) mixed Try.func47 (by kernel_rfl) (by kernel_rfl) (fun x => by kernel_rfl)

def s_laws_markIntS : Sig := { params := [.io 3 y3, .val false y3], res := [.val false y3] }
noncomputable def e_laws_markIntS : Entry := ⟨s_laws_markIntS, fun a => D.laws_markIntS a.1 a.2⟩
noncomputable def v_laws_markIntS : Env := { ti := look tab, Γ := fns [], loop := fun b => match b with | 0 => some [.slot 1 (.int .i64), .slot 5 (.int .i64), .vec 0 3 y3 true] | _ => none, cut := fun _ => none, deep := fun _ => false }
theorem c_laws_markIntS : Contract Try.prog 20 e_laws_markIntS.sig e_laws_markIntS.F :=
  den_is (E := v_laws_markIntS) ⟨tab_ti, tab_eq⟩ (fns_nil _) mixed Try.func20 (by kernel_rfl) (by kernel_rfl) (fun x => by kernel_rfl)

def s_laws_markCaptureS : Sig := { params := [.io 139 y139, .val false y3], res := [.val false y3] }
noncomputable def e_laws_markCaptureS : Entry := ⟨s_laws_markCaptureS, fun a => D.laws_markCaptureS a.1 a.2⟩
noncomputable def v_laws_markCaptureS : Env := { ti := look tab, Γ := fns [(20, [], e_laws_markIntS)], loop := fun b => match b with | 0 => some [.slot 1 (.int .i64), .slot 5 (.int .i64), .vec 0 139 y139 true] | _ => none, cut := fun _ => none, deep := fun _ => false }
theorem c_laws_markCaptureS : Contract Try.prog 48 e_laws_markCaptureS.sig e_laws_markCaptureS.F :=
  den_is (E := v_laws_markCaptureS) ⟨tab_ti, tab_eq⟩ (fns_cons c_laws_markIntS (fns_nil _)) mixed Try.func48 (by kernel_rfl) (by kernel_rfl) (fun x => by kernel_rfl)

def s_laws_markExclusionS : Sig := { params := [.io 180 y180, .val false y3], res := [.val false y3] }
noncomputable def e_laws_markExclusionS : Entry := ⟨s_laws_markExclusionS, fun a => D.laws_markExclusionS a.1 a.2⟩
noncomputable def v_laws_markExclusionS : Env := { ti := look tab, Γ := fns [], loop := fun b => match b with | 0 => some [.slot 1 (.int .i64), .slot 5 (.int .i64), .vec 0 180 y180 true] | _ => none, cut := fun _ => none, deep := fun _ => false }
theorem c_laws_markExclusionS : Contract Try.prog 49 e_laws_markExclusionS.sig e_laws_markExclusionS.F :=
  den_is (E := v_laws_markExclusionS) ⟨tab_ti, tab_eq⟩ (fns_nil _) mixed Try.func49 (by kernel_rfl) (by kernel_rfl) (fun x => by kernel_rfl)

def s_laws_heldIntS : Sig := { params := [.val false y24, .val false y3], res := [.val false y3] }
noncomputable def e_laws_heldIntS : Entry := ⟨s_laws_heldIntS, fun a => D.laws_heldIntS a.1 a.2⟩
noncomputable def v_laws_heldIntS : Env := { ti := look tab, Γ := fns [], loop := fun b => match b with | 0 => some [.slot 1 (.int .i64), .slot 5 (.int .i64)] | _ => none, cut := fun _ => none, deep := fun _ => false }
theorem c_laws_heldIntS : Contract Try.prog 21 e_laws_heldIntS.sig e_laws_heldIntS.F :=
  den_is (E := v_laws_heldIntS) ⟨tab_ti, tab_eq⟩ (fns_nil _) mixed Try.func21 (by kernel_rfl) (by kernel_rfl) (fun x => by kernel_rfl)

def s_laws_heldCaptureS : Sig := { params := [.val false y58, .val false y3], res := [.val false y3] }
noncomputable def e_laws_heldCaptureS : Entry := ⟨s_laws_heldCaptureS, fun a => D.laws_heldCaptureS a.1 a.2⟩
noncomputable def v_laws_heldCaptureS : Env := { ti := look tab, Γ := fns [(21, [], e_laws_heldIntS)], loop := fun b => match b with | 0 => some [.slot 1 (.int .i64), .slot 5 (.int .i64)] | _ => none, cut := fun _ => none, deep := fun _ => false }
theorem c_laws_heldCaptureS : Contract Try.prog 50 e_laws_heldCaptureS.sig e_laws_heldCaptureS.F :=
  den_is (E := v_laws_heldCaptureS) ⟨tab_ti, tab_eq⟩ (fns_cons c_laws_heldIntS (fns_nil _)) mixed Try.func50 (by kernel_rfl) (by kernel_rfl) (fun x => by kernel_rfl)

def s_laws_FnExactVisibleAt : Sig := { params := [.val false y54, .val false y55, .val false y3], res := [.val false y4] }
noncomputable def e_laws_FnExactVisibleAt : Entry := ⟨s_laws_FnExactVisibleAt, fun a => D.laws_FnExactVisibleAt a.1 a.2.1 a.2.2⟩
noncomputable def v_laws_FnExactVisibleAt : Env := { ti := look tab, Γ := fns [(40, [], e_laws_szCaptureS), (41, [], e_laws_szExclusionS), (43, [], e_laws_toCaptureS), (44, [], e_laws_toExclusionS), (42, [], e_spec_VisibleAt), (45, [], e_impl_VisibleAt), (46, [], e_laws_eqCaptureS), (47, [], e_laws_eqExclusionS), (48, [], e_laws_markCaptureS), (49, [], e_laws_markExclusionS), (50, [], e_laws_heldCaptureS)], loop := fun _ => none, cut := fun _ => none, deep := fun _ => false }
theorem c_laws_FnExactVisibleAt : Contract Try.prog 6 e_laws_FnExactVisibleAt.sig e_laws_FnExactVisibleAt.F :=
  den_is (E := v_laws_FnExactVisibleAt) ⟨tab_ti, tab_eq⟩ (fns_cons c_laws_szCaptureS (fns_cons c_laws_szExclusionS (fns_cons c_laws_toCaptureS (fns_cons c_laws_toExclusionS (fns_cons c_spec_VisibleAt (fns_cons c_impl_VisibleAt (fns_cons c_laws_eqCaptureS (fns_cons c_laws_eqExclusionS (fns_cons c_laws_markCaptureS (fns_cons c_laws_markExclusionS (fns_cons c_laws_heldCaptureS (fns_nil _)))))))))))) mixed Try.func6 (by kernel_rfl) (by kernel_rfl) (fun x => by kernel_rfl)

theorem law_true (a : Tup (s_laws_FnExactVisibleAt.params.map PTy.den)) (hok : argsOk Try.prog s_laws_FnExactVisibleAt.params a) : D.laws_FnExactVisibleAt a.1 a.2.1 a.2.2 = some true := D.FnExactVisibleAt_true a.1 a.2.1 a.2.2 (Ty.ok_bd (P := Try.prog) (t := y54) (by kernel_rfl) hok.1) (Ty.ok_bd (P := Try.prog) (t := y55) (by kernel_rfl) hok.2.1) (Ty.ok_bd (P := Try.prog) (t := y3) (by kernel_rfl) hok.2.2.1)
theorem lifted (os : Os) (started : os.Started) (H : Type) (enc : TypeId × Value → H) :
    ReturnsInHanded {} Try.checked os 6 .any (Rows.fnExactVisibleAtSpec.pre6 enc Try.prog Try.f6 Rows.fnExactVisibleAtRow.domain false) (Rows.fnExactVisibleAtSpec.post enc Try.prog Try.f6 false true false false) := by
  refine returnsInHanded_of_change_sized (C := Try.checked) (by kernel_rfl) started (by kernel_rfl) Try.func6
    (ChangeSpec.witness6 (enc := enc) (C := Try.checked) false ⟨#[], #[.slice none 0 0, .slice none 0 0, .int .i64 0], []⟩ 8 (by kernel_rfl) (by kernel_rfl) (by kernel_rfl) (by kernel_rfl)) ?_
  intro W base args ds gs before hval hW hcnd hsz _
  exact law_row (C := Try.checked) rfl c_laws_FnExactVisibleAt (N := 8) (by kernel_rfl) (tb := 4) (by kernel_rfl) (by kernel_rfl) (by kernel_rfl) (by kernel_rfl) rfl
    (fun ds h => by
      have h : ds.length = 3 := h
      match ds, h with
      | [d0, d1, d2], _ => rfl)
    bulky_sizeOf (small := fun _ => True) (fun a ds hok _ _ => ⟨_, law_true a hok, rfl⟩) hval hW hsz trivial

theorem over : Rows.fnExactVisibleAtRow.holds Try.pinned (OpenSpec.ofChange Rows.fnExactVisibleAtSpec) :=
  OpenClaim.holds_of_wide 6 Try.f6 rfl rfl rfl rfl rfl rfl rfl ⟨rfl, rfl, rfl, rfl, rfl⟩ rfl rfl rfl rfl rfl (by kernel_rfl) Try.func6 (by kernel_rfl)
    (of_decide_eq_true (by kernel_rfl)) (by unfold Func.isWrapper; first | (rw [if_pos (by decide +kernel)]; kernel_rfl) | (rw [if_neg (by decide +kernel)]; exact ⟨rfl, rfl⟩))
    (fun os started H enc _ => lifted os started H enc)
end Go.Proofs.Ythmpjemfgejccaa.SxFnExactVisibleAt
namespace Go.Proofs.Ythmpjemfgejccaa
theorem fnExactVisibleAt_holds : Rows.FnExactVisibleAtSaid := SxFnExactVisibleAt.over
end Go.Proofs.Ythmpjemfgejccaa
