/- FnExactHiddenCount returns true for every input, and each input reads as it did. No condition. -/
import Derived.Test.YtomfcmpdjfdnhaaRows
import Derived.Test.YtomfcmpdjfdnhaaPuFnExactHiddenCount
import Derived.WalkKit
import Derived.ProofKit
import Derived.ShutString
import Derived.SizedLaws
set_option linter.unusedVariables false
set_option maxRecDepth 100000
set_option maxHeartbeats 4000000
namespace Go.Proofs.Ytomfcmpdjfdnhaa.SxFnExactHiddenCount
open Go Go.Sh Go.RowKit
def y3 : Ty := .int .i64
def y4 : Ty := .bool
def y22 : Ty := .slice 3 y3
def y24 : Ty := .pair y3 (.pair y3 y3)
def y26 : Ty := .pair y3 (.pair y22 y24)
def y29 : Ty := .pair y3 (.pair y3 y3)
def y31 : Ty := .pair y3 (.pair y22 y29)
def y38 : Ty := .pair y24 (.pair y3 y26)
def y122 : Ty := .pair y3 (.pair y3 (.pair y3 (.pair y3 y3)))
def y39 : Ty := .slice 122 y122
def y44 : Ty := .pair y29 (.pair y3 y31)
def y67 : Ty := .pair y3 (.pair y3 (.pair y3 (.pair y3 y3)))
def y46 : Ty := .slice 67 y67
def y61 : Ty := .slice 44 y44
def y79 : Ty := .slice 38 y38
def tab : List (TypeId × TI) := [(3, { size := 1, bytes := 8, agg := false, ty := some y3 }),
  (4, { size := 1, bytes := 1, agg := false, ty := some y4 }),
  (22, { size := 1, bytes := 24, agg := false, ty := some y22, elem := some 3 }),
  (24, { size := 3, bytes := 24, agg := true, ty := some y24, fields := [(0, 3), (1, 3), (2, 3)] }),
  (26, { size := 5, bytes := 56, agg := true, ty := some y26, fields := [(0, 3), (1, 22), (2, 24)] }),
  (29, { size := 3, bytes := 24, agg := true, ty := some y29, fields := [(0, 3), (1, 3), (2, 3)], eq := true }),
  (31, { size := 5, bytes := 56, agg := true, ty := some y31, fields := [(0, 3), (1, 22), (2, 29)] }),
  (38, { size := 9, bytes := 88, agg := true, ty := some y38, fields := [(0, 24), (3, 3), (4, 26)] }),
  (122, { size := 5, bytes := 40, agg := true, ty := some y122, fields := [(0, 3), (1, 3), (2, 3), (3, 3), (4, 3)] }),
  (39, { size := 1, bytes := 24, agg := false, ty := some y39, elem := some 122 }),
  (44, { size := 9, bytes := 88, agg := true, ty := some y44, fields := [(0, 29), (3, 3), (4, 31)] }),
  (67, { size := 5, bytes := 40, agg := true, ty := some y67, fields := [(0, 3), (1, 3), (2, 3), (3, 3), (4, 3)] }),
  (46, { size := 1, bytes := 24, agg := false, ty := some y46, elem := some 67 }),
  (61, { size := 1, bytes := 24, agg := false, ty := some y61, elem := some 44 }),
  (79, { size := 1, bytes := 24, agg := false, ty := some y79, elem := some 38 })]
def look : List (TypeId × TI) → TypeId → Option TI
  | [], _ => none
  | (k, i) :: r, t => if Nat.beq t k = true then some i else look r t
theorem look_ok {P : Program} : ∀ {l : List (TypeId × TI)}, (l.all fun p => tiOk P p.1 p.2) = true → ∀ t i, look l t = some i → tiOk P t i = true
  | [], _, t, i, h => by simp [look] at h
  | (k, j) :: r, h0, t, i, h => by
    simp only [List.all_cons, Bool.and_eq_true] at h0
    simp only [look] at h
    split at h
    · rename_i hk
      simp only [Option.some.injEq] at h
      have := Nat.eq_of_beq_eq_true hk
      subst this; subst h; exact h0.1
    · exact look_ok h0.2 t i h
theorem look_eq {P : Program} : ∀ {l : List (TypeId × TI)}, (l.all fun p => !p.2.eq || eqTop P p.1 p.2.ty) = true → ∀ t i, look l t = some i → i.eq = true → ∀ ty, i.ty = some ty → EqLaw P t ty.zero
  | [], _, t, i, h => by simp [look] at h
  | (k, j) :: r, h0, t, i, h => by
    simp only [List.all_cons, Bool.and_eq_true, Bool.or_eq_true, Bool.not_eq_true'] at h0
    simp only [look] at h
    split at h
    · rename_i hk
      simp only [Option.some.injEq] at h
      have := Nat.eq_of_beq_eq_true hk
      subst this; subst h
      intro he
      exact eqLaw_of (h0.1.resolve_left (by simp [he]))
    · exact look_eq h0.2 t i h
def same : List Nat → List Nat → Bool
  | [], [] => true
  | a :: x, b :: y => Nat.beq a b && same x y
  | _, _ => false
theorem same_eq : ∀ {x y : List Nat}, same x y = true → x = y
  | [], [], _ => rfl
  | a :: x, b :: y, h => by
    simp only [same, Bool.and_eq_true] at h
    rw [Nat.eq_of_beq_eq_true h.1, same_eq h.2]
  | [], _ :: _, h => by simp [same] at h
  | _ :: _, [], h => by simp [same] at h
def fns : List (FuncId × List FuncId × Entry) → FuncId → List FuncId → Option Entry
  | [], _, _ => none
  | (k, c, e) :: r, f, fs => if (Nat.beq f k && same fs c) = true then some e else fns r f fs
theorem fns_nil (P : Program) : ∀ f fs en, fns [] f fs = some en → Contract P f en.sig en.F := fun f fs en h => by simp [fns] at h
theorem fns_cons {P : Program} {k : FuncId} {c : List FuncId} {e : Entry} {r : List (FuncId × List FuncId × Entry)} (hk : Contract P k e.sig e.F) (hr : ∀ f fs en, fns r f fs = some en → Contract P f en.sig en.F) : ∀ f fs en, fns ((k, c, e) :: r) f fs = some en → Contract P f en.sig en.F := fun f fs en h => by
  simp only [fns] at h
  split at h
  · rename_i hf
    simp only [Bool.and_eq_true] at hf
    simp only [Option.some.injEq] at h
    have := Nat.eq_of_beq_eq_true hf.1
    subst this; subst h; exact hk
  · exact hr f fs en h

theorem tab_ti : ∀ t i, look tab t = some i → tiOk Try.prog t i = true := look_ok (by kernel_rfl)
theorem tab_eq : ∀ t i, look tab t = some i → i.eq = true → ∀ ty, i.ty = some ty → EqLaw Try.prog t ty.zero := look_eq (by kernel_rfl)
theorem mixed : Try.prog.follows .mixedOrders = true := by kernel_rfl
def s_laws_szIntS : Sig := { params := [.val false y22, .val false y3], res := [.val false y3] }
noncomputable def e_laws_szIntS : Entry := ⟨s_laws_szIntS, fun a => D.laws_szIntS a.1 a.2⟩
noncomputable def v_laws_szIntS : Env := { ti := look tab, Γ := fns [], loop := fun _ => none, cut := fun _ => none, deep := fun _ => false }
theorem c_laws_szIntS : Contract Try.prog 81 e_laws_szIntS.sig e_laws_szIntS.F :=
  den_is (E := v_laws_szIntS) ⟨tab_ti, tab_eq⟩ (fns_nil _) mixed Try.func81 (by kernel_rfl) (by kernel_rfl) (fun x => by kernel_rfl)

def s_laws_szResource : Sig := { params := [.val true y26, .val false y3], res := [.val false y3] }
noncomputable def e_laws_szResource : Entry := ⟨s_laws_szResource, fun a => D.laws_szResource a.1 a.2⟩
noncomputable def v_laws_szResource : Env := { ti := look tab, Γ := fns [(81, [], e_laws_szIntS)], loop := fun _ => none, cut := fun _ => none, deep := fun _ => false }
theorem c_laws_szResource : Contract Try.prog 14 e_laws_szResource.sig e_laws_szResource.F :=
  den_is (E := v_laws_szResource) ⟨tab_ti, tab_eq⟩ (fns_cons c_laws_szIntS (fns_nil _)) mixed Try.func14 (by kernel_rfl) (by kernel_rfl) (fun x => by kernel_rfl)

def s_laws_szCapture : Sig := { params := [.val true y38, .val false y3], res := [.val false y3] }
noncomputable def e_laws_szCapture : Entry := ⟨s_laws_szCapture, fun a => D.laws_szCapture a.1 a.2⟩
noncomputable def v_laws_szCapture : Env := { ti := look tab, Γ := fns [(14, [], e_laws_szResource)], loop := fun _ => none, cut := fun _ => none, deep := fun _ => false }
theorem c_laws_szCapture : Contract Try.prog 21 e_laws_szCapture.sig e_laws_szCapture.F :=
  den_is (E := v_laws_szCapture) ⟨tab_ti, tab_eq⟩ (fns_cons c_laws_szResource (fns_nil _)) mixed Try.func21 (by kernel_rfl) (by kernel_rfl) (fun x => by kernel_rfl)

def s_laws_szCaptureS : Sig := { params := [.val false y79, .val false y3], res := [.val false y3] }
noncomputable def e_laws_szCaptureS : Entry := ⟨s_laws_szCaptureS, fun a => D.laws_szCaptureS a.1 a.2⟩
noncomputable def v_laws_szCaptureS : Env := { ti := look tab, Γ := fns [(21, [], e_laws_szCapture)], loop := fun b => match b with | 0 => some [.slot 1 (.int .i64), .slot 5 (.int .i64)] | _ => none, cut := fun _ => none, deep := fun _ => false }
theorem c_laws_szCaptureS : Contract Try.prog 70 e_laws_szCaptureS.sig e_laws_szCaptureS.F :=
  den_is (E := v_laws_szCaptureS) ⟨tab_ti, tab_eq⟩ (fns_cons c_laws_szCapture (fns_nil _)) mixed Try.func70 (by kernel_rfl) (by kernel_rfl) (fun x => by kernel_rfl)

def s_laws_szExclusionS : Sig := { params := [.val false y39, .val false y3], res := [.val false y3] }
noncomputable def e_laws_szExclusionS : Entry := ⟨s_laws_szExclusionS, fun a => D.laws_szExclusionS a.1 a.2⟩
noncomputable def v_laws_szExclusionS : Env := { ti := look tab, Γ := fns [], loop := fun _ => none, cut := fun _ => none, deep := fun _ => false }
theorem c_laws_szExclusionS : Contract Try.prog 22 e_laws_szExclusionS.sig e_laws_szExclusionS.F :=
  den_is (E := v_laws_szExclusionS) ⟨tab_ti, tab_eq⟩ (fns_nil _) mixed Try.func22 (by kernel_rfl) (by kernel_rfl) (fun x => by kernel_rfl)

def s_laws_toAddress : Sig := { params := [.val true y24], res := [.val true y29] }
noncomputable def e_laws_toAddress : Entry := ⟨s_laws_toAddress, fun a => D.laws_toAddress a⟩
noncomputable def v_laws_toAddress : Env := { ti := look tab, Γ := fns [], loop := fun _ => none, cut := fun _ => none, deep := fun _ => false }
theorem c_laws_toAddress : Contract Try.prog 83 e_laws_toAddress.sig e_laws_toAddress.F :=
  den_is (E := v_laws_toAddress) ⟨tab_ti, tab_eq⟩ (fns_nil _) mixed Try.func83 (by kernel_rfl) (by kernel_rfl) (fun x => by kernel_rfl)

def s_laws_toIntS : Sig := { params := [.val false y22], res := [.row 3 y3 false] }
noncomputable def e_laws_toIntS : Entry := ⟨s_laws_toIntS, fun a => D.laws_toIntS a⟩
noncomputable def v_laws_toIntS : Env := { ti := look tab, Γ := fns [], loop := fun b => match b with | 0 => some [.slot 4 (.int .i64), .vec 3 3 y3 false] | _ => none, cut := fun _ => none, deep := fun _ => false }
theorem c_laws_toIntS : Contract Try.prog 17 e_laws_toIntS.sig e_laws_toIntS.F :=
  den_is (E := v_laws_toIntS) ⟨tab_ti, tab_eq⟩ (fns_nil _) mixed Try.func17 (by kernel_rfl) (by kernel_rfl) (fun x => by kernel_rfl)

def s_laws_toResource : Sig := { params := [.val true y26], res := [.val false y3, .row 3 y3 false, .val false y3, .val false y3, .val false y3], rgroups := [some 5] }
noncomputable def e_laws_toResource : Entry := ⟨s_laws_toResource, fun a => D.laws_toResource a⟩
noncomputable def v_laws_toResource : Env := { ti := look tab, Γ := fns [(17, [], e_laws_toIntS), (83, [], e_laws_toAddress)], loop := fun _ => none, cut := fun _ => none, deep := fun _ => false }
theorem c_laws_toResource : Contract Try.prog 16 e_laws_toResource.sig e_laws_toResource.F :=
  den_is (E := v_laws_toResource) ⟨tab_ti, tab_eq⟩ (fns_cons c_laws_toIntS (fns_cons c_laws_toAddress (fns_nil _))) mixed Try.func16 (by kernel_rfl) (by kernel_rfl) (fun x => by kernel_rfl)

def s_laws_toCapture : Sig := { params := [.val true y38], res := [.val true y44] }
noncomputable def e_laws_toCapture : Entry := ⟨s_laws_toCapture, fun a => D.laws_toCapture a⟩
noncomputable def v_laws_toCapture : Env := { ti := look tab, Γ := fns [(83, [], e_laws_toAddress), (16, [], e_laws_toResource)], loop := fun _ => none, cut := fun _ => none, deep := fun _ => false }
theorem c_laws_toCapture : Contract Try.prog 24 e_laws_toCapture.sig e_laws_toCapture.F :=
  den_is (E := v_laws_toCapture) ⟨tab_ti, tab_eq⟩ (fns_cons c_laws_toAddress (fns_cons c_laws_toResource (fns_nil _))) mixed Try.func24 (by kernel_rfl) (by kernel_rfl) (fun x => by kernel_rfl)

def s_laws_toCaptureS : Sig := { params := [.val false y79], res := [.row 44 y44 false] }
noncomputable def e_laws_toCaptureS : Entry := ⟨s_laws_toCaptureS, fun a => D.laws_toCaptureS a⟩
noncomputable def v_laws_toCaptureS : Env := { ti := look tab, Γ := fns [(24, [], e_laws_toCapture)], loop := fun b => match b with | 0 => some [.slot 4 (.int .i64), .vec 3 44 y44 false] | _ => none, cut := fun _ => none, deep := fun _ => false }
theorem c_laws_toCaptureS : Contract Try.prog 72 e_laws_toCaptureS.sig e_laws_toCaptureS.F :=
  den_is (E := v_laws_toCaptureS) ⟨tab_ti, tab_eq⟩ (fns_cons c_laws_toCapture (fns_nil _)) mixed Try.func72 (by kernel_rfl) (by kernel_rfl) (fun x => by kernel_rfl)

def s_laws_toExclusion : Sig := { params := [.val true y122], res := [.val true y67] }
noncomputable def e_laws_toExclusion : Entry := ⟨s_laws_toExclusion, fun a => D.laws_toExclusion a⟩
noncomputable def v_laws_toExclusion : Env := { ti := look tab, Γ := fns [], loop := fun _ => none, cut := fun _ => none, deep := fun _ => false }
theorem c_laws_toExclusion : Contract Try.prog 86 e_laws_toExclusion.sig e_laws_toExclusion.F :=
  den_is (E := v_laws_toExclusion) ⟨tab_ti, tab_eq⟩ (fns_nil _) mixed Try.func86 (by kernel_rfl) (by kernel_rfl) (fun x => by kernel_rfl)

def s_laws_toExclusionS : Sig := { params := [.val false y39], res := [.row 67 y67 false] }
noncomputable def e_laws_toExclusionS : Entry := ⟨s_laws_toExclusionS, fun a => D.laws_toExclusionS a⟩
noncomputable def v_laws_toExclusionS : Env := { ti := look tab, Γ := fns [(86, [], e_laws_toExclusion)], loop := fun b => match b with | 0 => some [.slot 4 (.int .i64), .vec 3 67 y67 false] | _ => none, cut := fun _ => none, deep := fun _ => false }
theorem c_laws_toExclusionS : Contract Try.prog 25 e_laws_toExclusionS.sig e_laws_toExclusionS.F :=
  den_is (E := v_laws_toExclusionS) ⟨tab_ti, tab_eq⟩ (fns_cons c_laws_toExclusion (fns_nil _)) mixed Try.func25 (by kernel_rfl) (by kernel_rfl) (fun x => by kernel_rfl)

def s_spec_l1In : Sig := { params := [.val false y3, .val false y3, .val false y3], res := [.val false y4] }
noncomputable def e_spec_l1In : Entry := ⟨s_spec_l1In, fun a => D.spec_l1In a.1 a.2.1 a.2.2⟩
noncomputable def v_spec_l1In : Env := { ti := look tab, Γ := fns [], loop := fun _ => none, cut := fun _ => none, deep := fun _ => false }
theorem c_spec_l1In : Contract Try.prog 137 e_spec_l1In.sig e_spec_l1In.F :=
  den_is (E := v_spec_l1In) ⟨tab_ti, tab_eq⟩ (fns_nil _) mixed Try.func137 (by kernel_rfl) (by kernel_rfl) (fun x => by kernel_rfl)

def s_spec_IsExclusion : Sig := { params := [.val true y67], res := [.val false y4] }
noncomputable def e_spec_IsExclusion : Entry := ⟨s_spec_IsExclusion, fun a => D.spec_IsExclusion a⟩
noncomputable def v_spec_IsExclusion : Env := { ti := look tab, Γ := fns [(137, [], e_spec_l1In)], loop := fun _ => none, cut := fun _ => none, deep := fun _ => false }
theorem c_spec_IsExclusion : Contract Try.prog 144 e_spec_IsExclusion.sig e_spec_IsExclusion.F :=
  den_is (E := v_spec_IsExclusion) ⟨tab_ti, tab_eq⟩ (fns_cons c_spec_l1In (fns_nil _)) mixed Try.func144 (by kernel_rfl) (by kernel_rfl) (fun x => by kernel_rfl)

def s_spec_l25Meets : Sig := { params := [.val true y67, .val true y44], res := [.val false y4] }
noncomputable def e_spec_l25Meets : Entry := ⟨s_spec_l25Meets, fun a => D.spec_l25Meets a.1 a.2⟩
noncomputable def v_spec_l25Meets : Env := { ti := look tab, Γ := fns [(144, [], e_spec_IsExclusion), (137, [], e_spec_l1In)], loop := fun _ => none, cut := fun _ => none, deep := fun _ => false }
theorem c_spec_l25Meets : Contract Try.prog 85 e_spec_l25Meets.sig e_spec_l25Meets.F :=
  den_is (E := v_spec_l25Meets) ⟨tab_ti, tab_eq⟩ (fns_cons c_spec_IsExclusion (fns_cons c_spec_l1In (fns_nil _))) mixed Try.func85 (by kernel_rfl) (by kernel_rfl) (fun x => by kernel_rfl)

def s_spec_IsHiddenBy : Sig := { params := [.val true y67, .val true y44, .val false y3], res := [.val false y4] }
noncomputable def e_spec_IsHiddenBy : Entry := ⟨s_spec_IsHiddenBy, fun a => D.spec_IsHiddenBy a.1 a.2.1 a.2.2⟩
noncomputable def v_spec_IsHiddenBy : Env := { ti := look tab, Γ := fns [(85, [], e_spec_l25Meets)], loop := fun _ => none, cut := fun _ => none, deep := fun _ => false }
theorem c_spec_IsHiddenBy : Contract Try.prog 185 e_spec_IsHiddenBy.sig e_spec_IsHiddenBy.F :=
  den_is (E := v_spec_IsHiddenBy) ⟨tab_ti, tab_eq⟩ (fns_cons c_spec_l25Meets (fns_nil _)) mixed Try.func185 (by kernel_rfl) (by kernel_rfl) (fun x => by kernel_rfl)

def s_spec_l25Hidden : Sig := { params := [.val true y44, .val false y46, .val false y3], res := [.val false y4] }
noncomputable def e_spec_l25Hidden : Entry := ⟨s_spec_l25Hidden, fun a => D.spec_l25Hidden a.1 a.2.1 a.2.2⟩
noncomputable def v_spec_l25Hidden : Env := { ti := look tab, Γ := fns [(185, [], e_spec_IsHiddenBy)], loop := fun b => match b with | 0 => some [.slot 7 (.int .i64)] | _ => none, cut := fun _ => none, deep := fun _ => false }
theorem c_spec_l25Hidden : Contract Try.prog 166 e_spec_l25Hidden.sig e_spec_l25Hidden.F :=
  den_is (E := v_spec_l25Hidden) ⟨tab_ti, tab_eq⟩ (fns_cons c_spec_IsHiddenBy (fns_nil _)) mixed Try.func166 (by kernel_rfl) (by kernel_rfl) (fun x => by kernel_rfl)

def s_spec_l5Copy : Sig := { params := [.val true y31], res := [.val false y3, .row 3 y3 false, .val false y3, .val false y3, .val false y3], rgroups := [some 5] }
noncomputable def e_spec_l5Copy : Entry := ⟨s_spec_l5Copy, fun a => D.spec_l5Copy a⟩
noncomputable def v_spec_l5Copy : Env := { ti := look tab, Γ := fns [], loop := fun _ => none, cut := fun _ => none, deep := fun _ => false }
theorem c_spec_l5Copy : Contract Try.prog 186 e_spec_l5Copy.sig e_spec_l5Copy.F :=
  den_is (E := v_spec_l5Copy) ⟨tab_ti, tab_eq⟩ (fns_nil _) mixed Try.func186 (by kernel_rfl) (by kernel_rfl) (fun x => by kernel_rfl)

def s_spec_l15Copy : Sig := { params := [.val false y61], res := [.row 44 y44 false] }
noncomputable def e_spec_l15Copy : Entry := ⟨s_spec_l15Copy, fun a => D.spec_l15Copy a⟩
noncomputable def v_spec_l15Copy : Env := { ti := look tab, Γ := fns [(186, [], e_spec_l5Copy)], loop := fun b => match b with | 0 => some [.slot 3 (.own 44 y44 false), .slot 4 (.int .i64)] | _ => none, cut := fun _ => none, deep := fun _ => false }
theorem c_spec_l15Copy : Contract Try.prog 167 e_spec_l15Copy.sig e_spec_l15Copy.F :=
  den_is (E := v_spec_l15Copy) ⟨tab_ti, tab_eq⟩ (fns_cons c_spec_l5Copy (fns_nil _)) mixed Try.func167 (by kernel_rfl) (by kernel_rfl) (fun x => by kernel_rfl)

def s_spec_VisibleAt : Sig := { params := [.val false y61, .val false y46, .val false y3], res := [.row 44 y44 false] }
noncomputable def e_spec_VisibleAt : Entry := ⟨s_spec_VisibleAt, fun a => D.spec_VisibleAt a.1 a.2.1 a.2.2⟩
noncomputable def v_spec_VisibleAt : Env := { ti := look tab, Γ := fns [(166, [], e_spec_l25Hidden), (167, [], e_spec_l15Copy)], loop := fun b => match b with | 0 => some [.slot 7 (.own 44 y44 false), .slot 8 (.int .i64)] | _ => none, cut := fun _ => none, deep := fun _ => false }
theorem c_spec_VisibleAt : Contract Try.prog 134 e_spec_VisibleAt.sig e_spec_VisibleAt.F :=
  den_is (E := v_spec_VisibleAt) ⟨tab_ti, tab_eq⟩ (fns_cons c_spec_l25Hidden (fns_cons c_spec_l15Copy (fns_nil _))) mixed Try.func134 (by kernel_rfl) (by kernel_rfl) (fun x => by kernel_rfl)

def s_spec_HiddenCount : Sig := { params := [.val false y61, .val false y46, .val false y3], res := [.val false y3] }
noncomputable def e_spec_HiddenCount : Entry := ⟨s_spec_HiddenCount, fun a => D.spec_HiddenCount a.1 a.2.1 a.2.2⟩
noncomputable def v_spec_HiddenCount : Env := { ti := look tab, Γ := fns [(134, [], e_spec_VisibleAt)], loop := fun _ => none, cut := fun _ => none, deep := fun _ => false }
theorem c_spec_HiddenCount : Contract Try.prog 71 e_spec_HiddenCount.sig e_spec_HiddenCount.F :=
  den_is (E := v_spec_HiddenCount) ⟨tab_ti, tab_eq⟩ (fns_cons c_spec_VisibleAt (fns_nil _)) mixed Try.func71 (by kernel_rfl) (by kernel_rfl) (fun x => by kernel_rfl)

def s_impl_InRange : Sig := { params := [.val false y3, .val false y3, .val false y3], res := [.val false y4] }
noncomputable def e_impl_InRange : Entry := ⟨s_impl_InRange, fun a => D.impl_InRange a.1 a.2.1 a.2.2⟩
noncomputable def v_impl_InRange : Env := { ti := look tab, Γ := fns [], loop := fun _ => none, cut := fun _ => none, deep := fun _ => false }
theorem c_impl_InRange : Contract Try.prog 122 e_impl_InRange.sig e_impl_InRange.F :=
  den_is (E := v_impl_InRange) ⟨tab_ti, tab_eq⟩ (fns_nil _) mixed Try.func122 (by kernel_rfl) (by kernel_rfl) (fun x => by kernel_rfl)

def s_impl_IsExclusion : Sig := { params := [.val true y67], res := [.val false y4] }
noncomputable def e_impl_IsExclusion : Entry := ⟨s_impl_IsExclusion, fun a => D.impl_IsExclusion a⟩
noncomputable def v_impl_IsExclusion : Env := { ti := look tab, Γ := fns [(122, [], e_impl_InRange)], loop := fun _ => none, cut := fun _ => none, deep := fun _ => false }
theorem c_impl_IsExclusion : Contract Try.prog 145 e_impl_IsExclusion.sig e_impl_IsExclusion.F :=
  den_is (E := v_impl_IsExclusion) ⟨tab_ti, tab_eq⟩ (fns_cons c_impl_InRange (fns_nil _)) mixed Try.func145 (by kernel_rfl) (by kernel_rfl) (fun x => by kernel_rfl)

def s_impl_Exclusion_hides : Sig := { params := [.val true y67, .val true y44], res := [.val false y4] }
noncomputable def e_impl_Exclusion_hides : Entry := ⟨s_impl_Exclusion_hides, fun a => D.impl_Exclusion_hides a.1 a.2⟩
noncomputable def v_impl_Exclusion_hides : Env := { ti := look tab, Γ := fns [(145, [], e_impl_IsExclusion), (122, [], e_impl_InRange)], loop := fun _ => none, cut := fun _ => none, deep := fun _ => false }
theorem c_impl_Exclusion_hides : Contract Try.prog 87 e_impl_Exclusion_hides.sig e_impl_Exclusion_hides.F :=
  den_is (E := v_impl_Exclusion_hides) ⟨tab_ti, tab_eq⟩ (fns_cons c_impl_IsExclusion (fns_cons c_impl_InRange (fns_nil _))) mixed Try.func87 (by kernel_rfl) (by kernel_rfl) (fun x => by kernel_rfl)

def s_impl_IsHiddenBy : Sig := { params := [.val true y67, .val true y44, .val false y3], res := [.val false y4] }
noncomputable def e_impl_IsHiddenBy : Entry := ⟨s_impl_IsHiddenBy, fun a => D.impl_IsHiddenBy a.1 a.2.1 a.2.2⟩
noncomputable def v_impl_IsHiddenBy : Env := { ti := look tab, Γ := fns [(87, [], e_impl_Exclusion_hides)], loop := fun _ => none, cut := fun _ => none, deep := fun _ => false }
theorem c_impl_IsHiddenBy : Contract Try.prog 40 e_impl_IsHiddenBy.sig e_impl_IsHiddenBy.F :=
  den_is (E := v_impl_IsHiddenBy) ⟨tab_ti, tab_eq⟩ (fns_cons c_impl_Exclusion_hides (fns_nil _)) mixed Try.func40 (by kernel_rfl) (by kernel_rfl) (fun x => by kernel_rfl)

def s_impl_VisibleAt_1 : Sig := { params := [.val true y67, .cptr y44, .cptr y3], res := [.val false y4] }
noncomputable def e_impl_VisibleAt_1 : Entry := ⟨s_impl_VisibleAt_1, fun a => D.impl_VisibleAt_1 a.1 a.2.1 a.2.2⟩
noncomputable def v_impl_VisibleAt_1 : Env := { ti := look tab, Γ := fns [(40, [], e_impl_IsHiddenBy)], loop := fun _ => none, cut := fun _ => none, deep := fun _ => false }
theorem c_impl_VisibleAt_1 : Contract Try.prog 106 e_impl_VisibleAt_1.sig e_impl_VisibleAt_1.F :=
  den_is (E := v_impl_VisibleAt_1) ⟨tab_ti, tab_eq⟩ (fns_cons c_impl_IsHiddenBy (fns_nil _)) mixed Try.func106 (by kernel_rfl) (by kernel_rfl) (fun x => by kernel_rfl)

def s_slices_IndexFunc_Exclusion_impl_VisibleAt_1 : Sig := { params := [.val false y46, .fn 106 [y44, y3]], res := [.val false y3] }
noncomputable def e_slices_IndexFunc_Exclusion_impl_VisibleAt_1 : Entry := ⟨s_slices_IndexFunc_Exclusion_impl_VisibleAt_1, fun a => D.slices_IndexFunc_Exclusion_impl_VisibleAt_1 a.1 a.2⟩
noncomputable def v_slices_IndexFunc_Exclusion_impl_VisibleAt_1 : Env := { ti := look tab, Γ := fns [(106, [], e_impl_VisibleAt_1)], loop := fun b => match b with | 0 => some [.slot 8 (.int .i64)] | _ => none, cut := fun _ => none, deep := fun _ => false }
theorem c_slices_IndexFunc_Exclusion_impl_VisibleAt_1 : Contract Try.prog 156 e_slices_IndexFunc_Exclusion_impl_VisibleAt_1.sig e_slices_IndexFunc_Exclusion_impl_VisibleAt_1.F :=
  den_is (E := v_slices_IndexFunc_Exclusion_impl_VisibleAt_1) ⟨tab_ti, tab_eq⟩ (fns_cons c_impl_VisibleAt_1 (fns_nil _)) mixed Try.func156 (by kernel_rfl) (by kernel_rfl) (fun x => by kernel_rfl)

def s_slices_ContainsFunc_Exclusion_impl_VisibleAt_1 : Sig := { params := [.val false y46, .fn 106 [y44, y3]], res := [.val false y4] }
noncomputable def e_slices_ContainsFunc_Exclusion_impl_VisibleAt_1 : Entry := ⟨s_slices_ContainsFunc_Exclusion_impl_VisibleAt_1, fun a => D.slices_ContainsFunc_Exclusion_impl_VisibleAt_1 a.1 a.2⟩
noncomputable def v_slices_ContainsFunc_Exclusion_impl_VisibleAt_1 : Env := { ti := look tab, Γ := fns [(156, [106], e_slices_IndexFunc_Exclusion_impl_VisibleAt_1)], loop := fun _ => none, cut := fun _ => none, deep := fun _ => false }
theorem c_slices_ContainsFunc_Exclusion_impl_VisibleAt_1 : Contract Try.prog 105 e_slices_ContainsFunc_Exclusion_impl_VisibleAt_1.sig e_slices_ContainsFunc_Exclusion_impl_VisibleAt_1.F :=
  den_is (E := v_slices_ContainsFunc_Exclusion_impl_VisibleAt_1) ⟨tab_ti, tab_eq⟩ (fns_cons c_slices_IndexFunc_Exclusion_impl_VisibleAt_1 (fns_nil _)) mixed Try.func105 (by kernel_rfl) (by kernel_rfl) (fun x => by kernel_rfl)

def s_slices_Clone_int : Sig := { params := [.val false y22], res := [.row 3 y3 false] }
noncomputable def e_slices_Clone_int : Entry := ⟨s_slices_Clone_int, fun a => D.slices_Clone_int a⟩
noncomputable def v_slices_Clone_int : Env := { ti := look tab, Γ := fns [], loop := fun _ => none, cut := fun _ => none, deep := fun _ => false }
theorem c_slices_Clone_int : Contract Try.prog 179 e_slices_Clone_int.sig e_slices_Clone_int.F :=
  den_is (E := v_slices_Clone_int) ⟨tab_ti, tab_eq⟩ (fns_nil _) mixed Try.func179 (by kernel_rfl) (by kernel_rfl) (fun x => by kernel_rfl)

def s_impl_copyResource : Sig := { params := [.val true y31], res := [.val false y3, .row 3 y3 false, .val false y3, .val false y3, .val false y3], rgroups := [some 5] }
noncomputable def e_impl_copyResource : Entry := ⟨s_impl_copyResource, fun a => D.impl_copyResource a⟩
noncomputable def v_impl_copyResource : Env := { ti := look tab, Γ := fns [(179, [], e_slices_Clone_int)], loop := fun _ => none, cut := fun _ => none, deep := fun _ => false }
theorem c_impl_copyResource : Contract Try.prog 157 e_impl_copyResource.sig e_impl_copyResource.F :=
  den_is (E := v_impl_copyResource) ⟨tab_ti, tab_eq⟩ (fns_cons c_slices_Clone_int (fns_nil _)) mixed Try.func157 (by kernel_rfl) (by kernel_rfl) (fun x => by kernel_rfl)

def s_impl_copyCaptures : Sig := { params := [.val false y61], res := [.row 44 y44 false] }
noncomputable def e_impl_copyCaptures : Entry := ⟨s_impl_copyCaptures, fun a => D.impl_copyCaptures a⟩
noncomputable def v_impl_copyCaptures : Env := { ti := look tab, Γ := fns [(157, [], e_impl_copyResource)], loop := fun b => match b with | 0 => some [.slot 3 (.own 44 y44 false), .slot 8 (.int .i64)] | _ => none, cut := fun _ => none, deep := fun _ => false }
theorem c_impl_copyCaptures : Contract Try.prog 107 e_impl_copyCaptures.sig e_impl_copyCaptures.F :=
  den_is (E := v_impl_copyCaptures) ⟨tab_ti, tab_eq⟩ (fns_cons c_impl_copyResource (fns_nil _)) mixed Try.func107 (by kernel_rfl) (by kernel_rfl) (fun x => by kernel_rfl)

def s_impl_VisibleAt : Sig := { params := [.val false y61, .val false y46, .val false y3], res := [.row 44 y44 false] }
noncomputable def e_impl_VisibleAt : Entry := ⟨s_impl_VisibleAt, fun a => D.impl_VisibleAt a.1 a.2.1 a.2.2⟩
noncomputable def v_impl_VisibleAt : Env := { ti := look tab, Γ := fns [(105, [106], e_slices_ContainsFunc_Exclusion_impl_VisibleAt_1), (107, [], e_impl_copyCaptures)], loop := fun b => match b with | 0 => some [.slot 7 (.own 44 y44 false), .slot 12 (.int .i64)] | _ => none, cut := fun _ => none, deep := fun _ => false }
theorem c_impl_VisibleAt : Contract Try.prog 39 e_impl_VisibleAt.sig e_impl_VisibleAt.F :=
  den_is (E := v_impl_VisibleAt) ⟨tab_ti, tab_eq⟩ (fns_cons c_slices_ContainsFunc_Exclusion_impl_VisibleAt_1 (fns_cons c_impl_copyCaptures (fns_nil _))) mixed Try.func39 (by kernel_rfl) (by kernel_rfl) (fun x => by kernel_rfl)

def s_impl_HiddenCount : Sig := { params := [.val false y61, .val false y46, .val false y3], res := [.val false y3] }
noncomputable def e_impl_HiddenCount : Entry := ⟨s_impl_HiddenCount, fun a => D.impl_HiddenCount a.1 a.2.1 a.2.2⟩
noncomputable def v_impl_HiddenCount : Env := { ti := look tab, Γ := fns [(39, [], e_impl_VisibleAt)], loop := fun _ => none, cut := fun _ => none, deep := fun _ => false }
theorem c_impl_HiddenCount : Contract Try.prog 42 e_impl_HiddenCount.sig e_impl_HiddenCount.F :=
  den_is (E := v_impl_HiddenCount) ⟨tab_ti, tab_eq⟩ (fns_cons c_impl_VisibleAt (fns_nil _)) mixed Try.func42 (by kernel_rfl) (by kernel_rfl) (fun x => by kernel_rfl)

def s_laws_eqAddress : Sig := { params := [.val true y29, .val true y29], res := [.val false y4] }
noncomputable def e_laws_eqAddress : Entry := ⟨s_laws_eqAddress, fun a => D.laws_eqAddress a.1 a.2⟩
noncomputable def v_laws_eqAddress : Env := { ti := look tab, Γ := fns [], loop := fun _ => none, cut := fun _ => none, deep := fun _ => false }
theorem c_laws_eqAddress : Contract Try.prog 84 e_laws_eqAddress.sig e_laws_eqAddress.F :=
  den_is (E := v_laws_eqAddress) ⟨tab_ti, tab_eq⟩ (fns_nil _) mixed Try.func84 (by kernel_rfl) (by kernel_rfl) (fun x => by kernel_rfl)

def s_laws_eqIntS : Sig := { params := [.val false y22, .val false y22], res := [.val false y4] }
noncomputable def e_laws_eqIntS : Entry := ⟨s_laws_eqIntS, fun a => D.laws_eqIntS a.1 a.2⟩
noncomputable def v_laws_eqIntS : Env := { ti := look tab, Γ := fns [], loop := fun b => match b with | 0 => some [.slot 5 (.int .i64)] | _ => none, cut := fun _ => none, deep := fun _ => false }
theorem c_laws_eqIntS : Contract Try.prog 20 e_laws_eqIntS.sig e_laws_eqIntS.F :=
  den_is (E := v_laws_eqIntS) ⟨tab_ti, tab_eq⟩ (fns_nil _) mixed Try.func20 (by kernel_rfl) (by kernel_rfl) (fun x => by kernel_rfl)

def s_laws_eqResource : Sig := { params := [.val true y31, .val true y31], res := [.val false y4] }
noncomputable def e_laws_eqResource : Entry := ⟨s_laws_eqResource, fun a => D.laws_eqResource a.1 a.2⟩
noncomputable def v_laws_eqResource : Env := { ti := look tab, Γ := fns [(20, [], e_laws_eqIntS), (84, [], e_laws_eqAddress)], loop := fun _ => none, cut := fun _ => none, deep := fun _ => false }
theorem c_laws_eqResource : Contract Try.prog 19 e_laws_eqResource.sig e_laws_eqResource.F :=
  den_is (E := v_laws_eqResource) ⟨tab_ti, tab_eq⟩ (fns_cons c_laws_eqIntS (fns_cons c_laws_eqAddress (fns_nil _))) mixed Try.func19 (by kernel_rfl) (by kernel_rfl) (fun x => by kernel_rfl)

def s_laws_eqCapture : Sig := { params := [.val true y44, .val true y44], res := [.val false y4] }
noncomputable def e_laws_eqCapture : Entry := ⟨s_laws_eqCapture, fun a => D.laws_eqCapture a.1 a.2⟩
noncomputable def v_laws_eqCapture : Env := { ti := look tab, Γ := fns [(84, [], e_laws_eqAddress), (19, [], e_laws_eqResource)], loop := fun _ => none, cut := fun _ => none, deep := fun _ => false }
theorem c_laws_eqCapture : Contract Try.prog 27 e_laws_eqCapture.sig e_laws_eqCapture.F :=
  den_is (E := v_laws_eqCapture) ⟨tab_ti, tab_eq⟩ (fns_cons c_laws_eqAddress (fns_cons c_laws_eqResource (fns_nil _))) mixed Try.func27 (by kernel_rfl) (by kernel_rfl) (fun x => by kernel_rfl)

def s_laws_eqCaptureS : Sig := { params := [.val false y61, .val false y61], res := [.val false y4] }
noncomputable def e_laws_eqCaptureS : Entry := ⟨s_laws_eqCaptureS, fun a => D.laws_eqCaptureS a.1 a.2⟩
noncomputable def v_laws_eqCaptureS : Env := { ti := look tab, Γ := fns [(27, [], e_laws_eqCapture)], loop := fun b => match b with | 0 => some [.slot 5 (.int .i64)] | _ => none, cut := fun _ => none, deep := fun _ => false }
theorem c_laws_eqCaptureS : Contract Try.prog 73 e_laws_eqCaptureS.sig e_laws_eqCaptureS.F :=
  den_is (E := v_laws_eqCaptureS) ⟨tab_ti, tab_eq⟩ (fns_cons c_laws_eqCapture (fns_nil _)) mixed Try.func73 (by kernel_rfl) (by kernel_rfl) (fun x => by kernel_rfl)

def s_laws_eqExclusion : Sig := { params := [.val true y67, .val true y67], res := [.val false y4] }
noncomputable def e_laws_eqExclusion : Entry := ⟨s_laws_eqExclusion, fun a => D.laws_eqExclusion a.1 a.2⟩
noncomputable def v_laws_eqExclusion : Env := { ti := look tab, Γ := fns [], loop := fun _ => none, cut := fun _ => none, deep := fun _ => false }
theorem c_laws_eqExclusion : Contract Try.prog 88 e_laws_eqExclusion.sig e_laws_eqExclusion.F :=
  den_is (E := v_laws_eqExclusion) ⟨tab_ti, tab_eq⟩ (fns_nil _) mixed Try.func88 (by kernel_rfl) (by kernel_rfl) (fun x => by kernel_rfl)

def s_laws_eqExclusionS : Sig := { params := [.val false y46, .val false y46], res := [.val false y4] }
noncomputable def e_laws_eqExclusionS : Entry := ⟨s_laws_eqExclusionS, fun a => D.laws_eqExclusionS a.1 a.2⟩
noncomputable def v_laws_eqExclusionS : Env := { ti := look tab, Γ := fns [(88, [], e_laws_eqExclusion)], loop := fun b => match b with | 0 => some [.slot 5 (.int .i64)] | _ => none, cut := fun _ => none, deep := fun _ => false }
theorem c_laws_eqExclusionS : Contract Try.prog 28 e_laws_eqExclusionS.sig e_laws_eqExclusionS.F :=
  den_is (E := v_laws_eqExclusionS) ⟨tab_ti, tab_eq⟩ (fns_cons c_laws_eqExclusion (fns_nil _)) mixed Try.func28 (by kernel_rfl) (by kernel_rfl) (fun x => by kernel_rfl)

def s_laws_FnExactHiddenCount : Sig := { params := [.val false y79, .val false y39, .val false y3], res := [.val false y4] }
noncomputable def e_laws_FnExactHiddenCount : Entry := ⟨s_laws_FnExactHiddenCount, fun a => D.laws_FnExactHiddenCount a.1 a.2.1 a.2.2⟩
noncomputable def v_laws_FnExactHiddenCount : Env := { ti := look tab, Γ := fns [(70, [], e_laws_szCaptureS), (22, [], e_laws_szExclusionS), (72, [], e_laws_toCaptureS), (25, [], e_laws_toExclusionS), (71, [], e_spec_HiddenCount), (42, [], e_impl_HiddenCount), (73, [], e_laws_eqCaptureS), (28, [], e_laws_eqExclusionS)], loop := fun _ => none, cut := fun _ => none, deep := fun _ => false }
theorem c_laws_FnExactHiddenCount : Contract Try.prog 11 e_laws_FnExactHiddenCount.sig e_laws_FnExactHiddenCount.F :=
  den_is (E := v_laws_FnExactHiddenCount) ⟨tab_ti, tab_eq⟩ (fns_cons c_laws_szCaptureS (fns_cons c_laws_szExclusionS (fns_cons c_laws_toCaptureS (fns_cons c_laws_toExclusionS (fns_cons c_spec_HiddenCount (fns_cons c_impl_HiddenCount (fns_cons c_laws_eqCaptureS (fns_cons c_laws_eqExclusionS (fns_nil _))))))))) mixed Try.func11 (by kernel_rfl) (by kernel_rfl) (fun x => by kernel_rfl)

theorem law_true (a : Tup (s_laws_FnExactHiddenCount.params.map PTy.den)) (hok : argsOk Try.prog s_laws_FnExactHiddenCount.params a) : D.laws_FnExactHiddenCount a.1 a.2.1 a.2.2 = some true := D.FnExactHiddenCount_true a.1 a.2.1 a.2.2 (Ty.ok_bd (P := Try.prog) (t := y79) (by kernel_rfl) hok.1) (Ty.ok_bd (P := Try.prog) (t := y39) (by kernel_rfl) hok.2.1) (Ty.ok_bd (P := Try.prog) (t := y3) (by kernel_rfl) hok.2.2.1)
theorem lifted (os : Os) (started : os.Started) (H : Type) (enc : TypeId × Value → H) :
    ReturnsInHanded {} Try.checked os 11 .any (Rows.fnExactHiddenCountSpec.pre6 enc Try.prog Try.f11 Rows.fnExactHiddenCountRow.domain false) (Rows.fnExactHiddenCountSpec.post enc Try.prog Try.f11 false true false false) := by
  refine returnsInHanded_of_change_sized (C := Try.checked) (by kernel_rfl) started (by kernel_rfl) Try.func11
    (ChangeSpec.witness6 (enc := enc) (C := Try.checked) false ⟨#[], #[.slice none 0 0, .slice none 0 0, .int .i64 0], []⟩ 8 (by kernel_rfl) (by kernel_rfl) (by kernel_rfl) (by kernel_rfl)) ?_
  intro W base args ds gs before hval hW hcnd hsz _
  exact law_row (C := Try.checked) rfl c_laws_FnExactHiddenCount (N := 8) (by kernel_rfl) (tb := 4) (by kernel_rfl) (by kernel_rfl) (by kernel_rfl) (by kernel_rfl) rfl
    (fun ds h => by
      have h : ds.length = 3 := h
      match ds, h with
      | [d0, d1, d2], _ => rfl)
    bulky_sizeOf (small := fun _ => True) (fun a ds hok _ _ => ⟨_, law_true a hok, rfl⟩) hval hW hsz trivial

theorem over : Rows.fnExactHiddenCountRow.holds Try.pinned (OpenSpec.ofChange Rows.fnExactHiddenCountSpec) :=
  OpenClaim.holds_of_wide 11 Try.f11 rfl rfl rfl rfl rfl rfl rfl ⟨rfl, rfl, rfl, rfl, rfl⟩ rfl rfl rfl rfl rfl (by kernel_rfl) Try.func11 (by kernel_rfl)
    (of_decide_eq_true (by kernel_rfl)) (by unfold Func.isWrapper; first | (rw [if_pos (by decide +kernel)]; kernel_rfl) | (rw [if_neg (by decide +kernel)]; exact ⟨rfl, rfl⟩))
    (fun os started H enc _ => lifted os started H enc)
end Go.Proofs.Ytomfcmpdjfdnhaa.SxFnExactHiddenCount
namespace Go.Proofs.Ytomfcmpdjfdnhaa
theorem fnExactHiddenCount_holds : Rows.FnExactHiddenCountSaid := SxFnExactHiddenCount.over
end Go.Proofs.Ytomfcmpdjfdnhaa
