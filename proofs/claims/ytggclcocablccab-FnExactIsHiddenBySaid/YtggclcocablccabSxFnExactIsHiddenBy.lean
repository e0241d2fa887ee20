/- FnExactIsHiddenBy returns true for every input, and each input reads as it did. No condition. -/
import Derived.Test.YtggclcocablccabRows
import Derived.Test.YtggclcocablccabPuFnExactIsHiddenBy
import Derived.WalkKit
import Derived.ProofKit
import Derived.ShutString
import Derived.SizedLaws
set_option linter.unusedVariables false
set_option maxRecDepth 100000
set_option maxHeartbeats 4000000
namespace Go.Proofs.Ytggclcocablccab.SxFnExactIsHiddenBy
open Go Go.Sh Go.RowKit
def y3 : Ty := .int .i64
def y4 : Ty := .bool
def y24 : Ty := .slice 3 y3
def y45 : Ty := .pair y3 (.pair y3 (.pair y3 (.pair y3 y3)))
def y47 : Ty := .pair y3 (.pair y3 y3)
def y49 : Ty := .pair y3 (.pair y24 y47)
def y51 : Ty := .pair y47 (.pair y3 y49)
def y54 : Ty := .pair y3 (.pair y3 (.pair y3 (.pair y3 y3)))
def y56 : Ty := .pair y3 (.pair y3 y3)
def y58 : Ty := .pair y3 (.pair y24 y56)
def y60 : Ty := .pair y56 (.pair y3 y58)
def tab : List (TypeId × TI) := [(3, { size := 1, bytes := 8, agg := false, ty := some y3 }),
  (4, { size := 1, bytes := 1, agg := false, ty := some y4 }),
  (24, { size := 1, bytes := 24, agg := false, ty := some y24, elem := some 3 }),
  (45, { size := 5, bytes := 40, agg := true, ty := some y45, fields := [(0, 3), (1, 3), (2, 3), (3, 3), (4, 3)] }),
  (47, { size := 3, bytes := 24, agg := true, ty := some y47, fields := [(0, 3), (1, 3), (2, 3)] }),
  (49, { size := 5, bytes := 56, agg := true, ty := some y49, fields := [(0, 3), (1, 24), (2, 47)] }),
  (51, { size := 9, bytes := 88, agg := true, ty := some y51, fields := [(0, 47), (3, 3), (4, 49)] }),
  (54, { size := 5, bytes := 40, agg := true, ty := some y54, fields := [(0, 3), (1, 3), (2, 3), (3, 3), (4, 3)] }),
  (56, { size := 3, bytes := 24, agg := true, ty := some y56, fields := [(0, 3), (1, 3), (2, 3)] }),
  (58, { size := 5, bytes := 56, agg := true, ty := some y58, fields := [(0, 3), (1, 24), (2, 56)] }),
  (60, { size := 9, bytes := 88, agg := true, ty := some y60, fields := [(0, 56), (3, 3), (4, 58)] })]
def look : List (TypeId × TI) → TypeId → Option TI
  | [], _ => none
  | (k, i) :: r, t => if Nat.beq t k = true then some i else look r t
theorem look_ok {P : Program} : ∀ {l : List (TypeId × TI)}, (l.all fun p => tiOk P p.1 p.2) = true → ∀ t i, look l t = some i → tiOk P t i = true
  | [], _, t, i, h => by simp [look] at h
  | (k, j) :: r, h0, t, i, h => by
    simp only [List.all_cons, Bool.and_eq_true] at h0
    simp only [look] at h
    split at h
    · rename_i hk
      simp only [Option.some.injEq] at h
      have := Nat.eq_of_beq_eq_true hk
      subst this; subst h; exact h0.1
    · exact look_ok h0.2 t i h
theorem look_eq {P : Program} : ∀ {l : List (TypeId × TI)}, (l.all fun p => !p.2.eq || eqTop P p.1 p.2.ty) = true → ∀ t i, look l t = some i → i.eq = true → ∀ ty, i.ty = some ty → EqLaw P t ty.zero
  | [], _, t, i, h => by simp [look] at h
  | (k, j) :: r, h0, t, i, h => by
    simp only [List.all_cons, Bool.and_eq_true, Bool.or_eq_true, Bool.not_eq_true'] at h0
    simp only [look] at h
    split at h
    · rename_i hk
      simp only [Option.some.injEq] at h
      have := Nat.eq_of_beq_eq_true hk
      subst this; subst h
      intro he
      exact eqLaw_of (h0.1.resolve_left (by simp [he]))
    · exact look_eq h0.2 t i h
def same : List Nat → List Nat → Bool
  | [], [] => true
  | a :: x, b :: y => Nat.beq a b && same x y
  | _, _ => false
theorem same_eq : ∀ {x y : List Nat}, same x y = true → x = y
  | [], [], _ => rfl
  | a :: x, b :: y, h => by
    simp only [same, Bool.and_eq_true] at h
    rw [Nat.eq_of_beq_eq_true h.1, same_eq h.2]
  | [], _ :: _, h => by simp [same] at h
  | _ :: _, [], h => by simp [same] at h
def fns : List (FuncId × List FuncId × Entry) → FuncId → List FuncId → Option Entry
  | [], _, _ => none
  | (k, c, e) :: r, f, fs => if (Nat.beq f k && same fs c) = true then some e else fns r f fs
theorem fns_nil (P : Program) : ∀ f fs en, fns [] f fs = some en → Contract P f en.sig en.F := fun f fs en h => by simp [fns] at h
theorem fns_cons {P : Program} {k : FuncId} {c : List FuncId} {e : Entry} {r : List (FuncId × List FuncId × Entry)} (hk : Contract P k e.sig e.F) (hr : ∀ f fs en, fns r f fs = some en → Contract P f en.sig en.F) : ∀ f fs en, fns ((k, c, e) :: r) f fs = some en → Contract P f en.sig en.F := fun f fs en h => by
  simp only [fns] at h
  split at h
  · rename_i hf
    simp only [Bool.and_eq_true] at hf
    simp only [Option.some.injEq] at h
    have := Nat.eq_of_beq_eq_true hf.1
    subst this; subst h; exact hk
  · exact hr f fs en h

theorem tab_ti : ∀ t i, look tab t = some i → tiOk Try.prog t i = true := look_ok (by kernel_rfl)
theorem tab_eq : ∀ t i, look tab t = some i → i.eq = true → ∀ ty, i.ty = some ty → EqLaw Try.prog t ty.zero := look_eq (by kernel_rfl)
theorem mixed : Try.prog.follows .mixedOrders = true := by kernel_rfl
def s_laws_szIntS : Sig := { params := [.val false y24, .val false y3], res := [.val false y3] }
noncomputable def e_laws_szIntS : Entry := ⟨s_laws_szIntS, fun a => D.laws_szIntS a.1 a.2⟩
noncomputable def v_laws_szIntS : Env := { ti := look tab, Γ := fns [], loop := fun _ => none, cut := fun _ => none, deep := fun _ => false }
theorem c_laws_szIntS : Contract Try.prog 66 e_laws_szIntS.sig e_laws_szIntS.F :=
  den_is (E := v_laws_szIntS) ⟨tab_ti, tab_eq⟩ (fns_nil _) mixed Try.func66 (by kernel_rfl) (by kernel_rfl) (fun x => by kernel_rfl)

def s_laws_szResource : Sig := { params := [.val true y49, .val false y3], res := [.val false y3] }
noncomputable def e_laws_szResource : Entry := ⟨s_laws_szResource, fun a => D.laws_szResource a.1 a.2⟩
noncomputable def v_laws_szResource : Env := { ti := look tab, Γ := fns [(66, [], e_laws_szIntS)], loop := fun _ => none, cut := fun _ => none, deep := fun _ => false }
theorem c_laws_szResource : Contract Try.prog 35 e_laws_szResource.sig e_laws_szResource.F :=
  den_is (E := v_laws_szResource) ⟨tab_ti, tab_eq⟩ (fns_cons c_laws_szIntS (fns_nil _)) mixed Try.func35 (by kernel_rfl) (by kernel_rfl) (fun x => by kernel_rfl)

def s_laws_szCapture : Sig := { params := [.val true y51, .val false y3], res := [.val false y3] }
noncomputable def e_laws_szCapture : Entry := ⟨s_laws_szCapture, fun a => D.laws_szCapture a.1 a.2⟩
noncomputable def v_laws_szCapture : Env := { ti := look tab, Γ := fns [(35, [], e_laws_szResource)], loop := fun _ => none, cut := fun _ => none, deep := fun _ => false }
theorem c_laws_szCapture : Contract Try.prog 29 e_laws_szCapture.sig e_laws_szCapture.F :=
  den_is (E := v_laws_szCapture) ⟨tab_ti, tab_eq⟩ (fns_cons c_laws_szResource (fns_nil _)) mixed Try.func29 (by kernel_rfl) (by kernel_rfl) (fun x => by kernel_rfl)

def s_laws_toExclusion : Sig := { params := [.val true y45], res := [.val true y54] }
noncomputable def e_laws_toExclusion : Entry := ⟨s_laws_toExclusion, fun a => D.laws_toExclusion a⟩
noncomputable def v_laws_toExclusion : Env := { ti := look tab, Γ := fns [], loop := fun _ => none, cut := fun _ => none, deep := fun _ => false }
theorem c_laws_toExclusion : Contract Try.prog 31 e_laws_toExclusion.sig e_laws_toExclusion.F :=
  den_is (E := v_laws_toExclusion) ⟨tab_ti, tab_eq⟩ (fns_nil _) mixed Try.func31 (by kernel_rfl) (by kernel_rfl) (fun x => by kernel_rfl)

def s_laws_toAddress : Sig := { params := [.val true y47], res := [.val true y56] }
noncomputable def e_laws_toAddress : Entry := ⟨s_laws_toAddress, fun a => D.laws_toAddress a⟩
noncomputable def v_laws_toAddress : Env := { ti := look tab, Γ := fns [], loop := fun _ => none, cut := fun _ => none, deep := fun _ => false }
theorem c_laws_toAddress : Contract Try.prog 63 e_laws_toAddress.sig e_laws_toAddress.F :=
  den_is (E := v_laws_toAddress) ⟨tab_ti, tab_eq⟩ (fns_nil _) mixed Try.func63 (by kernel_rfl) (by kernel_rfl) (fun x => by kernel_rfl)

def s_laws_toIntS : Sig := { params := [.val false y24], res := [.row 3 y3 false] }
noncomputable def e_laws_toIntS : Entry := ⟨s_laws_toIntS, fun a => D.laws_toIntS a⟩
noncomputable def v_laws_toIntS : Env := { ti := look tab, Γ := fns [], loop := fun b => match b with | 0 => some [.slot 4 (.int .i64), .vec 3 3 y3 false] | _ => none, cut := fun _ => none, deep := fun _ => false }
theorem c_laws_toIntS : Contract Try.prog 70 e_laws_toIntS.sig e_laws_toIntS.F :=
  den_is (E := v_laws_toIntS) ⟨tab_ti, tab_eq⟩ (fns_nil _) mixed Try.func70 (by kernel_rfl) (by kernel_rfl) (fun x => by kernel_rfl)

def s_laws_toResource : Sig := { params := [.val true y49], res := [.val true y58] }
noncomputable def e_laws_toResource : Entry := ⟨s_laws_toResource, fun a => D.laws_toResource a⟩
noncomputable def v_laws_toResource : Env := { ti := look tab, Γ := fns [(70, [], e_laws_toIntS), (63, [], e_laws_toAddress)], loop := fun _ => none, cut := fun _ => none, deep := fun _ => false }
theorem c_laws_toResource : Contract Try.prog 37 e_laws_toResource.sig e_laws_toResource.F :=
  den_is (E := v_laws_toResource) ⟨tab_ti, tab_eq⟩ (fns_cons c_laws_toIntS (fns_cons c_laws_toAddress (fns_nil _))) mixed Try.func37 (by kernel_rfl) (by kernel_rfl) (fun x => by kernel_rfl)

def s_laws_toCapture : Sig := { params := [.val true y51], res := [.val true y60] }
noncomputable def e_laws_toCapture : Entry := ⟨s_laws_toCapture, fun a => D.laws_toCapture a⟩
noncomputable def v_laws_toCapture : Env := { ti := look tab, Γ := fns [(63, [], e_laws_toAddress), (37, [], e_laws_toResource)], loop := fun _ => none, cut := fun _ => none, deep := fun _ => false }
theorem c_laws_toCapture : Contract Try.prog 32 e_laws_toCapture.sig e_laws_toCapture.F :=
  den_is (E := v_laws_toCapture) ⟨tab_ti, tab_eq⟩ (fns_cons c_laws_toAddress (fns_cons c_laws_toResource (fns_nil _))) mixed Try.func32 (by kernel_rfl) (by kernel_rfl) (fun x => by kernel_rfl)

def s_spec_l1In : Sig := { params := [.val false y3, .val false y3, .val false y3], res := [.val false y4] }
noncomputable def e_spec_l1In : Entry := ⟨s_spec_l1In, fun a => D.spec_l1In a.1 a.2.1 a.2.2⟩
noncomputable def v_spec_l1In : Env := { ti := look tab, Γ := fns [], loop := fun _ => none, cut := fun _ => none, deep := fun _ => false }
theorem c_spec_l1In : Contract Try.prog 74 e_spec_l1In.sig e_spec_l1In.F :=
  den_is (E := v_spec_l1In) ⟨tab_ti, tab_eq⟩ (fns_nil _) mixed Try.func74 (by kernel_rfl) (by kernel_rfl) (fun x => by kernel_rfl)

def s_spec_IsExclusion : Sig := { params := [.val true y54], res := [.val false y4] }
noncomputable def e_spec_IsExclusion : Entry := ⟨s_spec_IsExclusion, fun a => D.spec_IsExclusion a⟩
noncomputable def v_spec_IsExclusion : Env := { ti := look tab, Γ := fns [(74, [], e_spec_l1In)], loop := fun _ => none, cut := fun _ => none, deep := fun _ => false }
theorem c_spec_IsExclusion : Contract Try.prog 88 e_spec_IsExclusion.sig e_spec_IsExclusion.F :=
  den_is (E := v_spec_IsExclusion) ⟨tab_ti, tab_eq⟩ (fns_cons c_spec_l1In (fns_nil _)) mixed Try.func88 (by kernel_rfl) (by kernel_rfl) (fun x => by kernel_rfl)

def s_spec_l25Meets : Sig := { params := [.val true y54, .val true y60], res := [.val false y4] }
noncomputable def e_spec_l25Meets : Entry := ⟨s_spec_l25Meets, fun a => D.spec_l25Meets a.1 a.2⟩
noncomputable def v_spec_l25Meets : Env := { ti := look tab, Γ := fns [(88, [], e_spec_IsExclusion), (74, [], e_spec_l1In)], loop := fun _ => none, cut := fun _ => none, deep := fun _ => false }
theorem c_spec_l25Meets : Contract Try.prog 62 e_spec_l25Meets.sig e_spec_l25Meets.F :=
  den_is (E := v_spec_l25Meets) ⟨tab_ti, tab_eq⟩ (fns_cons c_spec_IsExclusion (fns_cons c_spec_l1In (fns_nil _))) mixed Try.func62 (by kernel_rfl) (by kernel_rfl) (fun x => by kernel_rfl)

def s_spec_IsHiddenBy : Sig := { params := [.val true y54, .val true y60, .val false y3], res := [.val false y4] }
noncomputable def e_spec_IsHiddenBy : Entry := ⟨s_spec_IsHiddenBy, fun a => D.spec_IsHiddenBy a.1 a.2.1 a.2.2⟩
noncomputable def v_spec_IsHiddenBy : Env := { ti := look tab, Γ := fns [(62, [], e_spec_l25Meets)], loop := fun _ => none, cut := fun _ => none, deep := fun _ => false }
theorem c_spec_IsHiddenBy : Contract Try.prog 30 e_spec_IsHiddenBy.sig e_spec_IsHiddenBy.F :=
  den_is (E := v_spec_IsHiddenBy) ⟨tab_ti, tab_eq⟩ (fns_cons c_spec_l25Meets (fns_nil _)) mixed Try.func30 (by kernel_rfl) (by kernel_rfl) (fun x => by kernel_rfl)

def s_impl_InRange : Sig := { params := [.val false y3, .val false y3, .val false y3], res := [.val false y4] }
noncomputable def e_impl_InRange : Entry := ⟨s_impl_InRange, fun a => D.impl_InRange a.1 a.2.1 a.2.2⟩
noncomputable def v_impl_InRange : Env := { ti := look tab, Γ := fns [], loop := fun _ => none, cut := fun _ => none, deep := fun _ => false }
theorem c_impl_InRange : Contract Try.prog 77 e_impl_InRange.sig e_impl_InRange.F :=
  den_is (E := v_impl_InRange) ⟨tab_ti, tab_eq⟩ (fns_nil _) mixed Try.func77 (by kernel_rfl) (by kernel_rfl) (fun x => by kernel_rfl)

def s_impl_IsExclusion : Sig := { params := [.val true y54], res := [.val false y4] }
noncomputable def e_impl_IsExclusion : Entry := ⟨s_impl_IsExclusion, fun a => D.impl_IsExclusion a⟩
noncomputable def v_impl_IsExclusion : Env := { ti := look tab, Γ := fns [(77, [], e_impl_InRange)], loop := fun _ => none, cut := fun _ => none, deep := fun _ => false }
theorem c_impl_IsExclusion : Contract Try.prog 89 e_impl_IsExclusion.sig e_impl_IsExclusion.F :=
  den_is (E := v_impl_IsExclusion) ⟨tab_ti, tab_eq⟩ (fns_cons c_impl_InRange (fns_nil _)) mixed Try.func89 (by kernel_rfl) (by kernel_rfl) (fun x => by kernel_rfl)

def s_impl_Exclusion_hides : Sig := { params := [.val true y54, .val true y60], res := [.val false y4] }
noncomputable def e_impl_Exclusion_hides : Entry := ⟨s_impl_Exclusion_hides, fun a => D.impl_Exclusion_hides a.1 a.2⟩
noncomputable def v_impl_Exclusion_hides : Env := { ti := look tab, Γ := fns [(89, [], e_impl_IsExclusion), (77, [], e_impl_InRange)], loop := fun _ => none, cut := fun _ => none, deep := fun _ => false }
theorem c_impl_Exclusion_hides : Contract Try.prog 64 e_impl_Exclusion_hides.sig e_impl_Exclusion_hides.F :=
  den_is (E := v_impl_Exclusion_hides) ⟨tab_ti, tab_eq⟩ (fns_cons c_impl_IsExclusion (fns_cons c_impl_InRange (fns_nil _))) mixed Try.func64 (by kernel_rfl) (by kernel_rfl) (fun x => by kernel_rfl)

def s_impl_IsHiddenBy : Sig := { params := [.val true y54, .val true y60, .val false y3], res := [.val false y4] }
noncomputable def e_impl_IsHiddenBy : Entry := ⟨s_impl_IsHiddenBy, fun a => D.impl_IsHiddenBy a.1 a.2.1 a.2.2⟩
noncomputable def v_impl_IsHiddenBy : Env := { ti := look tab, Γ := fns [(64, [], e_impl_Exclusion_hides)], loop := fun _ => none, cut := fun _ => none, deep := fun _ => false }
theorem c_impl_IsHiddenBy : Contract Try.prog 33 e_impl_IsHiddenBy.sig e_impl_IsHiddenBy.F :=
  den_is (E := v_impl_IsHiddenBy) ⟨tab_ti, tab_eq⟩ (fns_cons c_impl_Exclusion_hides (fns_nil _)) mixed Try.func33 (by kernel_rfl) (by kernel_rfl) (fun x => by kernel_rfl)

def s_laws_eqAddress : Sig := { params := [.val true y56, .val true y56], res := [.val false y4] }
noncomputable def e_laws_eqAddress : Entry := ⟨s_laws_eqAddress, fun a => D.laws_eqAddress a.1 a.2⟩
noncomputable def v_laws_eqAddress : Env := { ti := look tab, Γ := fns [], loop := fun _ => none, cut := fun _ => none, deep := fun _ => false }
theorem c_laws_eqAddress : Contract Try.prog 65 e_laws_eqAddress.sig e_laws_eqAddress.F :=
  den_is (E := v_laws_eqAddress) ⟨tab_ti, tab_eq⟩ (fns_nil _) mixed Try.func65 (by kernel_rfl) (by kernel_rfl) (fun x => by kernel_rfl)

def s_laws_eqIntS : Sig := { params := [.val false y24, .val false y24], res := [.val false y4] }
noncomputable def e_laws_eqIntS : Entry := ⟨s_laws_eqIntS, fun a => D.laws_eqIntS a.1 a.2⟩
noncomputable def v_laws_eqIntS : Env := { ti := look tab, Γ := fns [], loop := fun b => match b with | 0 => some [.slot 5 (.int .i64)] | _ => none, cut := fun _ => none, deep := fun _ => false }
theorem c_laws_eqIntS : Contract Try.prog 13 e_laws_eqIntS.sig e_laws_eqIntS.F :=
  den_is (E := v_laws_eqIntS) ⟨tab_ti, tab_eq⟩ (fns_nil _) mixed Try.func13 (by kernel_rfl) (by kernel_rfl) (fun x => by kernel_rfl)

def s_laws_eqResource : Sig := { params := [.val true y58, .val true y58], res := [.val false y4] }
noncomputable def e_laws_eqResource : Entry := ⟨s_laws_eqResource, fun a => D.laws_eqResource a.1 a.2⟩
noncomputable def v_laws_eqResource : Env := { ti := look tab, Γ := fns [(13, [], e_laws_eqIntS), (65, [], e_laws_eqAddress)], loop := fun _ => none, cut := fun _ => none, deep := fun _ => false }
theorem c_laws_eqResource : Contract Try.prog 39 e_laws_eqResource.sig e_laws_eqResource.F :=
  den_is (E := v_laws_eqResource) ⟨tab_ti, tab_eq⟩ (fns_cons c_laws_eqIntS (fns_cons c_laws_eqAddress (fns_nil _))) mixed Try.func39 (by kernel_rfl) (by kernel_rfl) (fun x => by kernel_rfl)

def s_laws_eqCapture : Sig := { params := [.val true y60, .val true y60], res := [.val false y4] }
noncomputable def e_laws_eqCapture : Entry := ⟨s_laws_eqCapture, fun a => D.laws_eqCapture a.1 a.2⟩
noncomputable def v_laws_eqCapture : Env := { ti := look tab, Γ := fns [(65, [], e_laws_eqAddress), (39, [], e_laws_eqResource)], loop := fun _ => none, cut := fun _ => none, deep := fun _ => false }
theorem c_laws_eqCapture : Contract Try.prog 34 e_laws_eqCapture.sig e_laws_eqCapture.F :=
  den_is (E := v_laws_eqCapture) ⟨tab_ti, tab_eq⟩ (fns_cons c_laws_eqAddress (fns_cons c_laws_eqResource (fns_nil _))) mixed Try.func34 (by kernel_rfl) (by kernel_rfl) (fun x => by kernel_rfl)

def s_laws_FnExactIsHiddenBy : Sig := { params := [.val true y45, .val true y51, .val false y3], res := [.val false y4] }
noncomputable def e_laws_FnExactIsHiddenBy : Entry := ⟨s_laws_FnExactIsHiddenBy, fun a => D.laws_FnExactIsHiddenBy a.1 a.2.1 a.2.2⟩
noncomputable def v_laws_FnExactIsHiddenBy : Env := { ti := look tab, Γ := fns [(29, [], e_laws_szCapture), (31, [], e_laws_toExclusion), (32, [], e_laws_toCapture), (30, [], e_spec_IsHiddenBy), (33, [], e_impl_IsHiddenBy), (34, [], e_laws_eqCapture)], loop := fun _ => none, cut := fun _ => none, deep := fun _ => false }
theorem c_laws_FnExactIsHiddenBy : Contract Try.prog 7 e_laws_FnExactIsHiddenBy.sig e_laws_FnExactIsHiddenBy.F :=
  den_is (E := v_laws_FnExactIsHiddenBy) ⟨tab_ti, tab_eq⟩ (fns_cons c_laws_szCapture (fns_cons c_laws_toExclusion (fns_cons c_laws_toCapture (fns_cons c_spec_IsHiddenBy (fns_cons c_impl_IsHiddenBy (fns_cons c_laws_eqCapture (fns_nil _))))))) mixed Try.func7 (by kernel_rfl) (by kernel_rfl) (fun x => by kernel_rfl)

theorem law_true (a : Tup (s_laws_FnExactIsHiddenBy.params.map PTy.den)) (hok : argsOk Try.prog s_laws_FnExactIsHiddenBy.params a) : D.laws_FnExactIsHiddenBy a.1 a.2.1 a.2.2 = some true := D.FnExactIsHiddenBy_true a.1 a.2.1 a.2.2 (Ty.ok_bd (P := Try.prog) (t := y45) (by kernel_rfl) hok.1) (Ty.ok_bd (P := Try.prog) (t := y51) (by kernel_rfl) hok.2.1) (Ty.ok_bd (P := Try.prog) (t := y3) (by kernel_rfl) hok.2.2.1)
theorem lifted (os : Os) (started : os.Started) (H : Type) (enc : TypeId × Value → H) :
    ReturnsInHanded {} Try.checked os 7 .any (Rows.fnExactIsHiddenBySpec.pre6 enc Try.prog Try.f7 Rows.fnExactIsHiddenByRow.domain false) (Rows.fnExactIsHiddenBySpec.post enc Try.prog Try.f7 false true false false) := by
  refine returnsInHanded_of_change_sized (C := Try.checked) (by kernel_rfl) started (by kernel_rfl) Try.func7
    (ChangeSpec.witness6 (enc := enc) (C := Try.checked) false ⟨#[], #[.agg #[.int .i64 0, .int .i64 0, .int .i64 0, .int .i64 0, .int .i64 0], .agg #[.int .i64 0, .int .i64 0, .int .i64 0, .int .i64 0, .int .i64 0, .slice none 0 0, .int .i64 0, .int .i64 0, .int .i64 0], .int .i64 0], []⟩ 8 (by kernel_rfl) (by kernel_rfl) (by kernel_rfl) (by kernel_rfl)) ?_
  intro W base args ds gs before hval hW hcnd hsz _
  exact law_row (C := Try.checked) rfl c_laws_FnExactIsHiddenBy (N := 8) (by kernel_rfl) (tb := 4) (by kernel_rfl) (by kernel_rfl) (by kernel_rfl) (by kernel_rfl) rfl
    (fun ds h => by
      have h : ds.length = 3 := h
      match ds, h with
      | [d0, d1, d2], _ => rfl)
    bulky_sizeOf (small := fun _ => True) (fun a ds hok _ _ => ⟨_, law_true a hok, rfl⟩) hval hW hsz trivial

theorem over : Rows.fnExactIsHiddenByRow.holds Try.pinned (OpenSpec.ofChange Rows.fnExactIsHiddenBySpec) :=
  OpenClaim.holds_of_wide 7 Try.f7 rfl rfl rfl rfl rfl rfl rfl ⟨rfl, rfl, rfl, rfl, rfl⟩ rfl rfl rfl rfl rfl (by kernel_rfl) Try.func7 (by kernel_rfl)
    (of_decide_eq_true (by kernel_rfl)) (by unfold Func.isWrapper; first | (rw [if_pos (by decide +kernel)]; kernel_rfl) | (rw [if_neg (by decide +kernel)]; exact ⟨rfl, rfl⟩))
    (fun os started H enc _ => lifted os started H enc)
end Go.Proofs.Ytggclcocablccab.SxFnExactIsHiddenBy
namespace Go.Proofs.Ytggclcocablccab
theorem fnExactIsHiddenBy_holds : Rows.FnExactIsHiddenBySaid := SxFnExactIsHiddenBy.over
end Go.Proofs.Ytggclcocablccab
