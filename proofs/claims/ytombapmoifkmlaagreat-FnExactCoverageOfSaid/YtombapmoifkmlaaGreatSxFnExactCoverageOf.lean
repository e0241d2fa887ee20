/- FnExactCoverageOf returns true for every input, and each input reads as it did. No condition. -/
import Derived.Test.YtombapmoifkmlaaGreatRows
import Derived.Test.YtombapmoifkmlaaGreatPuFnExactCoverageOf
import Derived.WalkKit
import Derived.ProofKit
import Derived.ShutString
import Derived.SizedLaws
set_option linter.unusedVariables false
set_option maxRecDepth 100000
set_option maxHeartbeats 4000000
namespace Go.Proofs.YtombapmoifkmlaaGreat.SxFnExactCoverageOf
open Go Go.Sh Go.RowKit
def y3 : Ty := .int .i64
def y4 : Ty := .bool
def y80 : Ty := .pair y3 (.pair y3 y3)
def y24 : Ty := .slice 3 y3
def y82 : Ty := .pair y3 (.pair y24 y80)
def y84 : Ty := .pair y80 (.pair y3 y82)
def y22 : Ty := .slice 84 y84
def y131 : Ty := .pair y80 (.pair y3 y82)
def y23 : Ty := .slice 131 y131
def y26 : Ty := .pair y23 (.pair y3 (.pair y3 y24))
def y99 : Ty := .pair y3 (.pair y3 (.pair y3 y3))
def y27 : Ty := .slice 99 y99
def y74 : Ty := .pair y3 (.pair y3 y3)
def y90 : Ty := .pair y3 (.pair y24 y74)
def y92 : Ty := .pair y74 (.pair y3 y90)
def y32 : Ty := .slice 92 y92
def y138 : Ty := .pair y74 (.pair y3 y90)
def y34 : Ty := .slice 138 y138
def y36 : Ty := .pair y34 (.pair y3 (.pair y3 y24))
def y97 : Ty := .pair y3 (.pair y3 (.pair y3 y3))
def y38 : Ty := .slice 97 y97
def y44 : Ty := .slice 26 y26
def y47 : Ty := .slice 36 y36
def y76 : Ty := .pair y3 (.pair y74 y3)
def y55 : Ty := .slice 76 y76
def y63 : Ty := .pair y3 (.pair y24 (.pair y24 y24))
def y109 : Ty := .slice 63 y63
def y132 : Ty := .slice 74 y74
def y156 : Ty := .pair y3 y74
def tab : List (TypeId × TI) := [(3, { size := 1, bytes := 8, agg := false, ty := some y3 }),
  (4, { size := 1, bytes := 1, agg := false, ty := some y4 }),
  (80, { size := 3, bytes := 24, agg := true, ty := some y80, fields := [(0, 3), (1, 3), (2, 3)] }),
  (24, { size := 1, bytes := 24, agg := false, ty := some y24, elem := some 3 }),
  (82, { size := 5, bytes := 56, agg := true, ty := some y82, fields := [(0, 3), (1, 24), (2, 80)] }),
  (84, { size := 9, bytes := 88, agg := true, ty := some y84, fields := [(0, 80), (3, 3), (4, 82)] }),
  (22, { size := 1, bytes := 24, agg := false, ty := some y22, elem := some 84 }),
  (131, { size := 9, bytes := 88, agg := true, ty := some y131, fields := [(0, 80), (3, 3), (4, 82)] }),
  (23, { size := 1, bytes := 24, agg := false, ty := some y23, elem := some 131 }),
  (26, { size := 4, bytes := 64, agg := true, ty := some y26, fields := [(0, 23), (1, 3), (2, 3), (3, 24)] }),
  (99, { size := 4, bytes := 32, agg := true, ty := some y99, fields := [(0, 3), (1, 3), (2, 3), (3, 3)] }),
  (27, { size := 1, bytes := 24, agg := false, ty := some y27, elem := some 99 }),
  (74, { size := 3, bytes := 24, agg := true, ty := some y74, fields := [(0, 3), (1, 3), (2, 3)], eq := true }),
  (90, { size := 5, bytes := 56, agg := true, ty := some y90, fields := [(0, 3), (1, 24), (2, 74)] }),
  (92, { size := 9, bytes := 88, agg := true, ty := some y92, fields := [(0, 74), (3, 3), (4, 90)] }),
  (32, { size := 1, bytes := 24, agg := false, ty := some y32, elem := some 92 }),
  (138, { size := 9, bytes := 88, agg := true, ty := some y138, fields := [(0, 74), (3, 3), (4, 90)] }),
  (34, { size := 1, bytes := 24, agg := false, ty := some y34, elem := some 138 }),
  (36, { size := 4, bytes := 64, agg := true, ty := some y36, fields := [(0, 34), (1, 3), (2, 3), (3, 24)] }),
  (97, { size := 4, bytes := 32, agg := true, ty := some y97, fields := [(0, 3), (1, 3), (2, 3), (3, 3)], eq := true }),
  (38, { size := 1, bytes := 24, agg := false, ty := some y38, elem := some 97 }),
  (44, { size := 1, bytes := 24, agg := false, ty := some y44, elem := some 26 }),
  (47, { size := 1, bytes := 24, agg := false, ty := some y47, elem := some 36 }),
  (76, { size := 5, bytes := 40, agg := true, ty := some y76, fields := [(0, 3), (1, 74), (4, 3)], eq := true }),
  (55, { size := 1, bytes := 24, agg := false, ty := some y55, elem := some 76 }),
  (63, { size := 4, bytes := 80, agg := true, ty := some y63, fields := [(0, 3), (1, 24), (2, 24), (3, 24)] }),
  (109, { size := 1, bytes := 24, agg := false, ty := some y109, elem := some 63 }),
  (132, { size := 1, bytes := 24, agg := false, ty := some y132, elem := some 74 }),
  (156, { size := 4, bytes := 32, agg := true, ty := some y156, fields := [(0, 3), (1, 74)] })]
def look : List (TypeId × TI) → TypeId → Option TI
  | [], _ => none
  | (k, i) :: r, t => if Nat.beq t k = true then some i else look r t
theorem look_ok {P : Program} : ∀ {l : List (TypeId × TI)}, (l.all fun p => tiOk P p.1 p.2) = true → ∀ t i, look l t = some i → tiOk P t i = true
  | [], _, t, i, h => by simp [look] at h
  | (k, j) :: r, h0, t, i, h => by
    simp only [List.all_cons, Bool.and_eq_true] at h0
    simp only [look] at h
    split at h
    · rename_i hk
      simp only [Option.some.injEq] at h
      have := Nat.eq_of_beq_eq_true hk
      subst this; subst h; exact h0.1
    · exact look_ok h0.2 t i h
theorem look_eq {P : Program} : ∀ {l : List (TypeId × TI)}, (l.all fun p => !p.2.eq || eqTop P p.1 p.2.ty) = true → ∀ t i, look l t = some i → i.eq = true → ∀ ty, i.ty = some ty → EqLaw P t ty.zero
  | [], _, t, i, h => by simp [look] at h
  | (k, j) :: r, h0, t, i, h => by
    simp only [List.all_cons, Bool.and_eq_true, Bool.or_eq_true, Bool.not_eq_true'] at h0
    simp only [look] at h
    split at h
    · rename_i hk
      simp only [Option.some.injEq] at h
      have := Nat.eq_of_beq_eq_true hk
      subst this; subst h
      intro he
      exact eqLaw_of (h0.1.resolve_left (by simp [he]))
    · exact look_eq h0.2 t i h
def same : List Nat → List Nat → Bool
  | [], [] => true
  | a :: x, b :: y => Nat.beq a b && same x y
  | _, _ => false
theorem same_eq : ∀ {x y : List Nat}, same x y = true → x = y
  | [], [], _ => rfl
  | a :: x, b :: y, h => by
    simp only [same, Bool.and_eq_true] at h
    rw [Nat.eq_of_beq_eq_true h.1, same_eq h.2]
  | [], _ :: _, h => by simp [same] at h
  | _ :: _, [], h => by simp [same] at h
def fns : List (FuncId × List FuncId × Entry) → FuncId → List FuncId → Option Entry
  | [], _, _ => none
  | (k, c, e) :: r, f, fs => if (Nat.beq f k && same fs c) = true then some e else fns r f fs
theorem fns_nil (P : Program) : ∀ f fs en, fns [] f fs = some en → Contract P f en.sig en.F := fun f fs en h => by simp [fns] at h
theorem fns_cons {P : Program} {k : FuncId} {c : List FuncId} {e : Entry} {r : List (FuncId × List FuncId × Entry)} (hk : Contract P k e.sig e.F) (hr : ∀ f fs en, fns r f fs = some en → Contract P f en.sig en.F) : ∀ f fs en, fns ((k, c, e) :: r) f fs = some en → Contract P f en.sig en.F := fun f fs en h => by
  simp only [fns] at h
  split at h
  · rename_i hf
    simp only [Bool.and_eq_true] at hf
    simp only [Option.some.injEq] at h
    have := Nat.eq_of_beq_eq_true hf.1
    subst this; subst h; exact hk
  · exact hr f fs en h

theorem tab_ti : ∀ t i, look tab t = some i → tiOk Tryz.prog t i = true := look_ok (by kernel_rfl)
theorem tab_eq : ∀ t i, look tab t = some i → i.eq = true → ∀ ty, i.ty = some ty → EqLaw Tryz.prog t ty.zero := look_eq (by kernel_rfl)
theorem mixed : Tryz.prog.follows .mixedOrders = true := by kernel_rfl
def s_laws_szIntS : Sig := { params := [.val false y24, .val false y3], res := [.val false y3] }
noncomputable def e_laws_szIntS : Entry := ⟨s_laws_szIntS, fun a => D.laws_szIntS a.1 a.2⟩
noncomputable def v_laws_szIntS : Env := { ti := look tab, Γ := fns [], loop := fun _ => none, cut := fun _ => none, deep := fun _ => false }
theorem c_laws_szIntS : Contract Tryz.prog 36 e_laws_szIntS.sig e_laws_szIntS.F :=
  den_is (E := v_laws_szIntS) ⟨tab_ti, tab_eq⟩ (fns_nil _) mixed Tryz.func36 (by kernel_rfl) (by kernel_rfl) (fun x => by kernel_rfl)

def s_laws_szResource : Sig := { params := [.val true y82, .val false y3], res := [.val false y3] }
noncomputable def e_laws_szResource : Entry := ⟨s_laws_szResource, fun a => D.laws_szResource a.1 a.2⟩
noncomputable def v_laws_szResource : Env := { ti := look tab, Γ := fns [(36, [], e_laws_szIntS)], loop := fun _ => none, cut := fun _ => none, deep := fun _ => false }
theorem c_laws_szResource : Contract Tryz.prog 76 e_laws_szResource.sig e_laws_szResource.F :=
  den_is (E := v_laws_szResource) ⟨tab_ti, tab_eq⟩ (fns_cons c_laws_szIntS (fns_nil _)) mixed Tryz.func76 (by kernel_rfl) (by kernel_rfl) (fun x => by kernel_rfl)

def s_laws_szCapture : Sig := { params := [.val true y84, .val false y3], res := [.val false y3] }
noncomputable def e_laws_szCapture : Entry := ⟨s_laws_szCapture, fun a => D.laws_szCapture a.1 a.2⟩
noncomputable def v_laws_szCapture : Env := { ti := look tab, Γ := fns [(76, [], e_laws_szResource)], loop := fun _ => none, cut := fun _ => none, deep := fun _ => false }
theorem c_laws_szCapture : Contract Tryz.prog 34 e_laws_szCapture.sig e_laws_szCapture.F :=
  den_is (E := v_laws_szCapture) ⟨tab_ti, tab_eq⟩ (fns_cons c_laws_szResource (fns_nil _)) mixed Tryz.func34 (by kernel_rfl) (by kernel_rfl) (fun x => by kernel_rfl)

def s_laws_szCaptureS : Sig := { params := [.val false y22, .val false y3], res := [.val false y3] }
noncomputable def e_laws_szCaptureS : Entry := ⟨s_laws_szCaptureS, fun a => D.laws_szCaptureS a.1 a.2⟩
noncomputable def v_laws_szCaptureS : Env := { ti := look tab, Γ := fns [(34, [], e_laws_szCapture)], loop := fun b => match b with | 0 => some [.slot 1 (.int .i64), .slot 5 (.int .i64)] | _ => none, cut := fun _ => none, deep := fun _ => false }
theorem c_laws_szCaptureS : Contract Tryz.prog 6 e_laws_szCaptureS.sig e_laws_szCaptureS.F :=
  den_is (E := v_laws_szCaptureS) ⟨tab_ti, tab_eq⟩ (fns_cons c_laws_szCapture (fns_nil _)) mixed Tryz.func6 (by kernel_rfl) (by kernel_rfl) (fun x => by kernel_rfl)

def s_laws_szVersion : Sig := { params := [.val true y131, .val false y3], res := [.val false y3] }
noncomputable def e_laws_szVersion : Entry := ⟨s_laws_szVersion, fun a => D.laws_szVersion a.1 a.2⟩
noncomputable def v_laws_szVersion : Env := { ti := look tab, Γ := fns [(76, [], e_laws_szResource)], loop := fun _ => none, cut := fun _ => none, deep := fun _ => false }
theorem c_laws_szVersion : Contract Tryz.prog 77 e_laws_szVersion.sig e_laws_szVersion.F :=
  den_is (E := v_laws_szVersion) ⟨tab_ti, tab_eq⟩ (fns_cons c_laws_szResource (fns_nil _)) mixed Tryz.func77 (by kernel_rfl) (by kernel_rfl) (fun x => by kernel_rfl)

def s_laws_szVersionS : Sig := { params := [.val false y23, .val false y3], res := [.val false y3] }
noncomputable def e_laws_szVersionS : Entry := ⟨s_laws_szVersionS, fun a => D.laws_szVersionS a.1 a.2⟩
noncomputable def v_laws_szVersionS : Env := { ti := look tab, Γ := fns [(77, [], e_laws_szVersion)], loop := fun b => match b with | 0 => some [.slot 1 (.int .i64), .slot 5 (.int .i64)] | _ => none, cut := fun _ => none, deep := fun _ => false }
theorem c_laws_szVersionS : Contract Tryz.prog 35 e_laws_szVersionS.sig e_laws_szVersionS.F :=
  den_is (E := v_laws_szVersionS) ⟨tab_ti, tab_eq⟩ (fns_cons c_laws_szVersion (fns_nil _)) mixed Tryz.func35 (by kernel_rfl) (by kernel_rfl) (fun x => by kernel_rfl)

def s_laws_szVisit : Sig := { params := [.val true y26, .val false y3], res := [.val false y3] }
noncomputable def e_laws_szVisit : Entry := ⟨s_laws_szVisit, fun a => D.laws_szVisit a.1 a.2⟩
noncomputable def v_laws_szVisit : Env := { ti := look tab, Γ := fns [(35, [], e_laws_szVersionS), (36, [], e_laws_szIntS)], loop := fun _ => none, cut := fun _ => none, deep := fun _ => false }
theorem c_laws_szVisit : Contract Tryz.prog 7 e_laws_szVisit.sig e_laws_szVisit.F :=
  den_is (E := v_laws_szVisit) ⟨tab_ti, tab_eq⟩ (fns_cons c_laws_szVersionS (fns_cons c_laws_szIntS (fns_nil _))) mixed Tryz.func7 (by kernel_rfl) (by kernel_rfl) (fun x => by kernel_rfl)

def s_laws_szVisitS : Sig := { params := [.val false y44, .val false y3], res := [.val false y3] }
noncomputable def e_laws_szVisitS : Entry := ⟨s_laws_szVisitS, fun a => D.laws_szVisitS a.1 a.2⟩
noncomputable def v_laws_szVisitS : Env := { ti := look tab, Γ := fns [(7, [], e_laws_szVisit)], loop := fun b => match b with | 0 => some [.slot 1 (.int .i64), .slot 5 (.int .i64)] | _ => none, cut := fun _ => none, deep := fun _ => false }
theorem c_laws_szVisitS : Contract Tryz.prog 17 e_laws_szVisitS.sig e_laws_szVisitS.F :=
  den_is (E := v_laws_szVisitS) ⟨tab_ti, tab_eq⟩ (fns_cons c_laws_szVisit (fns_nil _)) mixed Tryz.func17 (by kernel_rfl) (by kernel_rfl) (fun x => by kernel_rfl)

def s_laws_szOpS : Sig := { params := [.val false y27, .val false y3], res := [.val false y3] }
noncomputable def e_laws_szOpS : Entry := ⟨s_laws_szOpS, fun a => D.laws_szOpS a.1 a.2⟩
noncomputable def v_laws_szOpS : Env := { ti := look tab, Γ := fns [], loop := fun _ => none, cut := fun _ => none, deep := fun _ => false }
theorem c_laws_szOpS : Contract Tryz.prog 8 e_laws_szOpS.sig e_laws_szOpS.F :=
  den_is (E := v_laws_szOpS) ⟨tab_ti, tab_eq⟩ (fns_nil _) mixed Tryz.func8 (by kernel_rfl) (by kernel_rfl) (fun x => by kernel_rfl)

def s_laws_toAddress : Sig := { params := [.val true y80], res := [.val true y74] }
noncomputable def e_laws_toAddress : Entry := ⟨s_laws_toAddress, fun a => D.laws_toAddress a⟩
noncomputable def v_laws_toAddress : Env := { ti := look tab, Γ := fns [], loop := fun _ => none, cut := fun _ => none, deep := fun _ => false }
theorem c_laws_toAddress : Contract Tryz.prog 81 e_laws_toAddress.sig e_laws_toAddress.F :=
  den_is (E := v_laws_toAddress) ⟨tab_ti, tab_eq⟩ (fns_nil _) mixed Tryz.func81 (by kernel_rfl) (by kernel_rfl) (fun x => by kernel_rfl)

def s_laws_toIntS : Sig := { params := [.val false y24], res := [.row 3 y3 false] }
noncomputable def e_laws_toIntS : Entry := ⟨s_laws_toIntS, fun a => D.laws_toIntS a⟩
noncomputable def v_laws_toIntS : Env := { ti := look tab, Γ := fns [], loop := fun b => match b with | 0 => some [.slot 4 (.int .i64), .vec 3 3 y3 false] | _ => none, cut := fun _ => none, deep := fun _ => false }
theorem c_laws_toIntS : Contract Tryz.prog 41 e_laws_toIntS.sig e_laws_toIntS.F :=
  den_is (E := v_laws_toIntS) ⟨tab_ti, tab_eq⟩ (fns_nil _) mixed Tryz.func41 (by kernel_rfl) (by kernel_rfl) (fun x => by kernel_rfl)

def s_laws_toResource : Sig := { params := [.val true y82], res := [.val false y3, .row 3 y3 false, .val false y3, .val false y3, .val false y3], rgroups := [some 5] }
noncomputable def e_laws_toResource : Entry := ⟨s_laws_toResource, fun a => D.laws_toResource a⟩
noncomputable def v_laws_toResource : Env := { ti := look tab, Γ := fns [(41, [], e_laws_toIntS), (81, [], e_laws_toAddress)], loop := fun _ => none, cut := fun _ => none, deep := fun _ => false }
theorem c_laws_toResource : Contract Tryz.prog 82 e_laws_toResource.sig e_laws_toResource.F :=
  den_is (E := v_laws_toResource) ⟨tab_ti, tab_eq⟩ (fns_cons c_laws_toIntS (fns_cons c_laws_toAddress (fns_nil _))) mixed Tryz.func82 (by kernel_rfl) (by kernel_rfl) (fun x => by kernel_rfl)

def s_laws_toCapture : Sig := { params := [.val true y84], res := [.val false y3, .val false y3, .val false y3, .val false y3, .val false y3, .row 3 y3 false, .val false y3, .val false y3, .val false y3], rgroups := [some 9] }
noncomputable def e_laws_toCapture : Entry := ⟨s_laws_toCapture, fun a => D.laws_toCapture a⟩
noncomputable def v_laws_toCapture : Env := { ti := look tab, Γ := fns [(81, [], e_laws_toAddress), (82, [], e_laws_toResource)], loop := fun _ => none, cut := fun _ => none, deep := fun _ => false }
theorem c_laws_toCapture : Contract Tryz.prog 39 e_laws_toCapture.sig e_laws_toCapture.F :=
  den_is (E := v_laws_toCapture) ⟨tab_ti, tab_eq⟩ (fns_cons c_laws_toAddress (fns_cons c_laws_toResource (fns_nil _))) mixed Tryz.func39 (by kernel_rfl) (by kernel_rfl) (fun x => by kernel_rfl)

def s_laws_toCaptureS : Sig := { params := [.val false y22], res := [.row 92 y92 true] }
noncomputable def e_laws_toCaptureS : Entry := ⟨s_laws_toCaptureS, fun a => D.laws_toCaptureS a⟩
noncomputable def v_laws_toCaptureS : Env := { ti := look tab, Γ := fns [(39, [], e_laws_toCapture)], loop := fun b => match b with | 0 => some [.slot 4 (.int .i64), .vec 3 92 y92 true] | _ => none, cut := fun _ => none, deep := fun t => Nat.beq t 7 }
theorem c_laws_toCaptureS : Contract Tryz.prog 10 e_laws_toCaptureS.sig e_laws_toCaptureS.F :=
  den_is (E := v_laws_toCaptureS) ⟨tab_ti, tab_eq⟩ (fns_cons c_laws_toCapture (fns_nil _)) mixed Tryz.func10 (by kernel_rfl) (by kernel_rfl) (fun x => by kernel_rfl)

def s_laws_toVersion : Sig := { params := [.val true y131], res := [.val false y3, .val false y3, .val false y3, .val false y3, .val false y3, .row 3 y3 false, .val false y3, .val false y3, .val false y3], rgroups := [some 9] }
noncomputable def e_laws_toVersion : Entry := ⟨s_laws_toVersion, fun a => D.laws_toVersion a⟩
noncomputable def v_laws_toVersion : Env := { ti := look tab, Γ := fns [(81, [], e_laws_toAddress), (82, [], e_laws_toResource)], loop := fun _ => none, cut := fun _ => none, deep := fun _ => false }
theorem c_laws_toVersion : Contract Tryz.prog 83 e_laws_toVersion.sig e_laws_toVersion.F :=
  den_is (E := v_laws_toVersion) ⟨tab_ti, tab_eq⟩ (fns_cons c_laws_toAddress (fns_cons c_laws_toResource (fns_nil _))) mixed Tryz.func83 (by kernel_rfl) (by kernel_rfl) (fun x => by kernel_rfl)

def s_laws_toVersionS : Sig := { params := [.val false y23], res := [.row 138 y138 true] }
noncomputable def e_laws_toVersionS : Entry := ⟨s_laws_toVersionS, fun a => D.laws_toVersionS a⟩
noncomputable def v_laws_toVersionS : Env := { ti := look tab, Γ := fns [(83, [], e_laws_toVersion)], loop := fun b => match b with | 0 => some [.slot 4 (.int .i64), .vec 3 138 y138 true] | _ => none, cut := fun _ => none, deep := fun t => Nat.beq t 7 }
theorem c_laws_toVersionS : Contract Tryz.prog 40 e_laws_toVersionS.sig e_laws_toVersionS.F :=
  den_is (E := v_laws_toVersionS) ⟨tab_ti, tab_eq⟩ (fns_cons c_laws_toVersion (fns_nil _)) mixed Tryz.func40 (by kernel_rfl) (by kernel_rfl) (fun x => by kernel_rfl)

def s_laws_toVisit : Sig := { params := [.val true y26], res := [.row 138 y138 true, .val false y3, .val false y3, .row 3 y3 false], rgroups := [some 4] }
noncomputable def e_laws_toVisit : Entry := ⟨s_laws_toVisit, fun a => D.laws_toVisit a⟩
noncomputable def v_laws_toVisit : Env := { ti := look tab, Γ := fns [(40, [], e_laws_toVersionS), (41, [], e_laws_toIntS)], loop := fun _ => none, cut := fun _ => none, deep := fun _ => false }
theorem c_laws_toVisit : Contract Tryz.prog 11 e_laws_toVisit.sig e_laws_toVisit.F :=
  den_is (E := v_laws_toVisit) ⟨tab_ti, tab_eq⟩ (fns_cons c_laws_toVersionS (fns_cons c_laws_toIntS (fns_nil _))) mixed Tryz.func11 (by kernel_rfl) (by kernel_rfl) (fun x => by kernel_rfl)

def s_laws_toVisitS : Sig := { params := [.val false y44], res := [.row 36 y36 true] }
noncomputable def e_laws_toVisitS : Entry := ⟨s_laws_toVisitS, fun a => D.laws_toVisitS a⟩
noncomputable def v_laws_toVisitS : Env := { ti := look tab, Γ := fns [(11, [], e_laws_toVisit)], loop := fun b => match b with | 0 => some [.slot 4 (.int .i64), .vec 3 36 y36 true] | _ => none, cut := fun _ => none, deep := fun t => Nat.beq t 7 }
theorem c_laws_toVisitS : Contract Tryz.prog 19 e_laws_toVisitS.sig e_laws_toVisitS.F :=
  den_is (E := v_laws_toVisitS) ⟨tab_ti, tab_eq⟩ (fns_cons c_laws_toVisit (fns_nil _)) mixed Tryz.func19 (by kernel_rfl) (by kernel_rfl) (fun x => by kernel_rfl)

def s_laws_toOp : Sig := { params := [.val true y99], res := [.val true y97] }
noncomputable def e_laws_toOp : Entry := ⟨s_laws_toOp, fun a => D.laws_toOp a⟩
noncomputable def v_laws_toOp : Env := { ti := look tab, Γ := fns [], loop := fun _ => none, cut := fun _ => none, deep := fun _ => false }
theorem c_laws_toOp : Contract Tryz.prog 42 e_laws_toOp.sig e_laws_toOp.F :=
  den_is (E := v_laws_toOp) ⟨tab_ti, tab_eq⟩ (fns_nil _) mixed Tryz.func42 (by kernel_rfl) (by kernel_rfl) (fun x => by kernel_rfl)

def s_laws_toOpS : Sig := { params := [.val false y27], res := [.row 97 y97 false] }
noncomputable def e_laws_toOpS : Entry := ⟨s_laws_toOpS, fun a => D.laws_toOpS a⟩
noncomputable def v_laws_toOpS : Env := { ti := look tab, Γ := fns [(42, [], e_laws_toOp)], loop := fun b => match b with | 0 => some [.slot 4 (.int .i64), .vec 3 97 y97 false] | _ => none, cut := fun _ => none, deep := fun _ => false }
theorem c_laws_toOpS : Contract Tryz.prog 12 e_laws_toOpS.sig e_laws_toOpS.F :=
  den_is (E := v_laws_toOpS) ⟨tab_ti, tab_eq⟩ (fns_cons c_laws_toOp (fns_nil _)) mixed Tryz.func12 (by kernel_rfl) (by kernel_rfl) (fun x => by kernel_rfl)

def s_spec_l11Zeros : Sig := { params := [.val false y3], res := [.row 3 y3 false] }
noncomputable def e_spec_l11Zeros : Entry := ⟨s_spec_l11Zeros, fun a => D.spec_l11Zeros a⟩
noncomputable def v_spec_l11Zeros : Env := { ti := look tab, Γ := fns [], loop := fun b => match b with | 0 => some [.slot 3 (.own 3 y3 false), .slot 4 (.int .i64)] | _ => none, cut := fun _ => none, deep := fun _ => false }
theorem c_spec_l11Zeros : Contract Tryz.prog 163 e_spec_l11Zeros.sig e_spec_l11Zeros.F :=
  den_is (E := v_spec_l11Zeros) ⟨tab_ti, tab_eq⟩ (fns_nil _) mixed Tryz.func163 (by kernel_rfl) (by kernel_rfl) (fun x => by kernel_rfl)

def s_spec_StartState : Sig := { params := [], res := [.val false y3, .row 3 y3 false, .row 3 y3 false, .row 3 y3 false], rgroups := [some 4] }
noncomputable def e_spec_StartState : Entry := ⟨s_spec_StartState, fun _ => D.spec_StartState⟩
noncomputable def v_spec_StartState : Env := { ti := look tab, Γ := fns [(163, [], e_spec_l11Zeros)], loop := fun _ => none, cut := fun _ => none, deep := fun _ => false }
theorem c_spec_StartState : Contract Tryz.prog 145 e_spec_StartState.sig e_spec_StartState.F :=
  den_is (E := v_spec_StartState) ⟨tab_ti, tab_eq⟩ (fns_cons c_spec_l11Zeros (fns_nil _)) mixed Tryz.func145 (by kernel_rfl) (by kernel_rfl) (fun x => by kernel_rfl)

def s_spec_l1In : Sig := { params := [.val false y3, .val false y3, .val false y3], res := [.val false y4] }
noncomputable def e_spec_l1In : Entry := ⟨s_spec_l1In, fun a => D.spec_l1In a.1 a.2.1 a.2.2⟩
noncomputable def v_spec_l1In : Env := { ti := look tab, Γ := fns [], loop := fun _ => none, cut := fun _ => none, deep := fun _ => false }
theorem c_spec_l1In : Contract Tryz.prog 166 e_spec_l1In.sig e_spec_l1In.F :=
  den_is (E := v_spec_l1In) ⟨tab_ti, tab_eq⟩ (fns_nil _) mixed Tryz.func166 (by kernel_rfl) (by kernel_rfl) (fun x => by kernel_rfl)

def s_spec_l10Ok : Sig := { params := [.val true y97], res := [.val false y4] }
noncomputable def e_spec_l10Ok : Entry := ⟨s_spec_l10Ok, fun a => D.spec_l10Ok a⟩
noncomputable def v_spec_l10Ok : Env := { ti := look tab, Γ := fns [(166, [], e_spec_l1In)], loop := fun _ => none, cut := fun _ => none, deep := fun _ => false }
theorem c_spec_l10Ok : Contract Tryz.prog 164 e_spec_l10Ok.sig e_spec_l10Ok.F :=
  den_is (E := v_spec_l10Ok) ⟨tab_ti, tab_eq⟩ (fns_cons c_spec_l1In (fns_nil _)) mixed Tryz.func164 (by kernel_rfl) (by kernel_rfl) (fun x => by kernel_rfl)

def s_spec_IsScript : Sig := { params := [.val false y38], res := [.val false y4] }
noncomputable def e_spec_IsScript : Entry := ⟨s_spec_IsScript, fun a => D.spec_IsScript a⟩
noncomputable def v_spec_IsScript : Env := { ti := look tab, Γ := fns [(164, [], e_spec_l10Ok)], loop := fun b => match b with | 0 => some [.slot 3 (.int .i64)] | _ => none, cut := fun _ => none, deep := fun _ => false }
theorem c_spec_IsScript : Contract Tryz.prog 146 e_spec_IsScript.sig e_spec_IsScript.F :=
  den_is (E := v_spec_IsScript) ⟨tab_ti, tab_eq⟩ (fns_cons c_spec_l10Ok (fns_nil _)) mixed Tryz.func146 (by kernel_rfl) (by kernel_rfl) (fun x => by kernel_rfl)

def s_spec_IsAddress : Sig := { params := [.val true y74], res := [.val false y4] }
noncomputable def e_spec_IsAddress : Entry := ⟨s_spec_IsAddress, fun a => D.spec_IsAddress a⟩
noncomputable def v_spec_IsAddress : Env := { ti := look tab, Γ := fns [(166, [], e_spec_l1In)], loop := fun _ => none, cut := fun _ => none, deep := fun _ => false }
theorem c_spec_IsAddress : Contract Tryz.prog 176 e_spec_IsAddress.sig e_spec_IsAddress.F :=
  den_is (E := v_spec_IsAddress) ⟨tab_ti, tab_eq⟩ (fns_cons c_spec_l1In (fns_nil _)) mixed Tryz.func176 (by kernel_rfl) (by kernel_rfl) (fun x => by kernel_rfl)

def s_spec_l5Bytes : Sig := { params := [.val false y24], res := [.val false y4] }
noncomputable def e_spec_l5Bytes : Entry := ⟨s_spec_l5Bytes, fun a => D.spec_l5Bytes a⟩
noncomputable def v_spec_l5Bytes : Env := { ti := look tab, Γ := fns [(166, [], e_spec_l1In)], loop := fun b => match b with | 0 => some [.slot 3 (.int .i64)] | _ => none, cut := fun _ => none, deep := fun _ => false }
theorem c_spec_l5Bytes : Contract Tryz.prog 180 e_spec_l5Bytes.sig e_spec_l5Bytes.F :=
  den_is (E := v_spec_l5Bytes) ⟨tab_ti, tab_eq⟩ (fns_cons c_spec_l1In (fns_nil _)) mixed Tryz.func180 (by kernel_rfl) (by kernel_rfl) (fun x => by kernel_rfl)

def s_spec_IsResource : Sig := { params := [.val true y90], res := [.val false y4] }
noncomputable def e_spec_IsResource : Entry := ⟨s_spec_IsResource, fun a => D.spec_IsResource a⟩
noncomputable def v_spec_IsResource : Env := { ti := look tab, Γ := fns [(166, [], e_spec_l1In), (180, [], e_spec_l5Bytes), (176, [], e_spec_IsAddress)], loop := fun _ => none, cut := fun _ => none, deep := fun _ => false }
theorem c_spec_IsResource : Contract Tryz.prog 177 e_spec_IsResource.sig e_spec_IsResource.F :=
  den_is (E := v_spec_IsResource) ⟨tab_ti, tab_eq⟩ (fns_cons c_spec_l1In (fns_cons c_spec_l5Bytes (fns_cons c_spec_IsAddress (fns_nil _)))) mixed Tryz.func177 (by kernel_rfl) (by kernel_rfl) (fun x => by kernel_rfl)

def s_spec_IsSite : Sig := { params := [.val false y34], res := [.val false y4] }
noncomputable def e_spec_IsSite : Entry := ⟨s_spec_IsSite, fun a => D.spec_IsSite a⟩
noncomputable def v_spec_IsSite : Env := { ti := look tab, Γ := fns [(176, [], e_spec_IsAddress), (166, [], e_spec_l1In), (177, [], e_spec_IsResource)], loop := fun b => match b with | 0 => some [.slot 3 (.int .i64)] | _ => none, cut := fun _ => none, deep := fun _ => false }
theorem c_spec_IsSite : Contract Tryz.prog 165 e_spec_IsSite.sig e_spec_IsSite.F :=
  den_is (E := v_spec_IsSite) ⟨tab_ti, tab_eq⟩ (fns_cons c_spec_IsAddress (fns_cons c_spec_l1In (fns_cons c_spec_IsResource (fns_nil _)))) mixed Tryz.func165 (by kernel_rfl) (by kernel_rfl) (fun x => by kernel_rfl)

def s_spec_l11All : Sig := { params := [.val false y24, .val false y3], res := [.val false y4] }
noncomputable def e_spec_l11All : Entry := ⟨s_spec_l11All, fun a => D.spec_l11All a.1 a.2⟩
noncomputable def v_spec_l11All : Env := { ti := look tab, Γ := fns [(166, [], e_spec_l1In)], loop := fun b => match b with | 0 => some [.slot 5 (.int .i64)] | _ => none, cut := fun _ => none, deep := fun _ => false }
theorem c_spec_l11All : Contract Tryz.prog 167 e_spec_l11All.sig e_spec_l11All.F :=
  den_is (E := v_spec_l11All) ⟨tab_ti, tab_eq⟩ (fns_cons c_spec_l1In (fns_nil _)) mixed Tryz.func167 (by kernel_rfl) (by kernel_rfl) (fun x => by kernel_rfl)

def s_spec_IsVisit : Sig := { params := [.val true y36], res := [.val false y4] }
noncomputable def e_spec_IsVisit : Entry := ⟨s_spec_IsVisit, fun a => D.spec_IsVisit a⟩
noncomputable def v_spec_IsVisit : Env := { ti := look tab, Γ := fns [(165, [], e_spec_IsSite), (166, [], e_spec_l1In), (167, [], e_spec_l11All)], loop := fun _ => none, cut := fun _ => none, deep := fun _ => false }
theorem c_spec_IsVisit : Contract Tryz.prog 147 e_spec_IsVisit.sig e_spec_IsVisit.F :=
  den_is (E := v_spec_IsVisit) ⟨tab_ti, tab_eq⟩ (fns_cons c_spec_IsSite (fns_cons c_spec_l1In (fns_cons c_spec_l11All (fns_nil _)))) mixed Tryz.func147 (by kernel_rfl) (by kernel_rfl) (fun x => by kernel_rfl)

def s_spec_IsDone : Sig := { params := [.val false y38, .val true y63], res := [.val false y4] }
noncomputable def e_spec_IsDone : Entry := ⟨s_spec_IsDone, fun a => D.spec_IsDone a.1 a.2⟩
noncomputable def v_spec_IsDone : Env := { ti := look tab, Γ := fns [], loop := fun _ => none, cut := fun _ => none, deep := fun _ => false }
theorem c_spec_IsDone : Contract Tryz.prog 148 e_spec_IsDone.sig e_spec_IsDone.F :=
  den_is (E := v_spec_IsDone) ⟨tab_ti, tab_eq⟩ (fns_nil _) mixed Tryz.func148 (by kernel_rfl) (by kernel_rfl) (fun x => by kernel_rfl)

def s_spec_IsState : Sig := { params := [.val true y63], res := [.val false y4] }
noncomputable def e_spec_IsState : Entry := ⟨s_spec_IsState, fun a => D.spec_IsState a⟩
noncomputable def v_spec_IsState : Env := { ti := look tab, Γ := fns [(166, [], e_spec_l1In), (167, [], e_spec_l11All)], loop := fun _ => none, cut := fun _ => none, deep := fun _ => false }
theorem c_spec_IsState : Contract Tryz.prog 178 e_spec_IsState.sig e_spec_IsState.F :=
  den_is (E := v_spec_IsState) ⟨tab_ti, tab_eq⟩ (fns_cons c_spec_l1In (fns_cons c_spec_l11All (fns_nil _))) mixed Tryz.func178 (by kernel_rfl) (by kernel_rfl) (fun x => by kernel_rfl)

def s_spec_l11Can : Sig := { params := [.val false y38, .val true y63], res := [.val false y4] }
noncomputable def e_spec_l11Can : Entry := ⟨s_spec_l11Can, fun a => D.spec_l11Can a.1 a.2⟩
noncomputable def v_spec_l11Can : Env := { ti := look tab, Γ := fns [(146, [], e_spec_IsScript), (178, [], e_spec_IsState)], loop := fun _ => none, cut := fun _ => none, deep := fun _ => false }
theorem c_spec_l11Can : Contract Tryz.prog 168 e_spec_l11Can.sig e_spec_l11Can.F :=
  den_is (E := v_spec_l11Can) ⟨tab_ti, tab_eq⟩ (fns_cons c_spec_IsScript (fns_cons c_spec_IsState (fns_nil _))) mixed Tryz.func168 (by kernel_rfl) (by kernel_rfl) (fun x => by kernel_rfl)

def s_spec_Asks : Sig := { params := [.val false y3], res := [.val false y4] }
noncomputable def e_spec_Asks : Entry := ⟨s_spec_Asks, fun a => D.spec_Asks a⟩
noncomputable def v_spec_Asks : Env := { ti := look tab, Γ := fns [(166, [], e_spec_l1In)], loop := fun _ => none, cut := fun _ => none, deep := fun _ => false }
theorem c_spec_Asks : Contract Tryz.prog 169 e_spec_Asks.sig e_spec_Asks.F :=
  den_is (E := v_spec_Asks) ⟨tab_ti, tab_eq⟩ (fns_cons c_spec_l1In (fns_nil _)) mixed Tryz.func169 (by kernel_rfl) (by kernel_rfl) (fun x => by kernel_rfl)

def s_spec_WantOf : Sig := { params := [.val false y38, .val true y63], res := [.val true y156] }
noncomputable def e_spec_WantOf : Entry := ⟨s_spec_WantOf, fun a => D.spec_WantOf a.1 a.2⟩
noncomputable def v_spec_WantOf : Env := { ti := look tab, Γ := fns [(168, [], e_spec_l11Can), (169, [], e_spec_Asks)], loop := fun _ => none, cut := fun _ => none, deep := fun _ => false }
theorem c_spec_WantOf : Contract Tryz.prog 149 e_spec_WantOf.sig e_spec_WantOf.F :=
  den_is (E := v_spec_WantOf) ⟨tab_ti, tab_eq⟩ (fns_cons c_spec_l11Can (fns_cons c_spec_Asks (fns_nil _))) mixed Tryz.func149 (by kernel_rfl) (by kernel_rfl) (fun x => by kernel_rfl)

def s_spec_l5Copy : Sig := { params := [.val true y90], res := [.val false y3, .row 3 y3 false, .val false y3, .val false y3, .val false y3], rgroups := [some 5] }
noncomputable def e_spec_l5Copy : Entry := ⟨s_spec_l5Copy, fun a => D.spec_l5Copy a⟩
noncomputable def v_spec_l5Copy : Env := { ti := look tab, Γ := fns [], loop := fun _ => none, cut := fun _ => none, deep := fun _ => false }
theorem c_spec_l5Copy : Contract Tryz.prog 152 e_spec_l5Copy.sig e_spec_l5Copy.F :=
  den_is (E := v_spec_l5Copy) ⟨tab_ti, tab_eq⟩ (fns_nil _) mixed Tryz.func152 (by kernel_rfl) (by kernel_rfl) (fun x => by kernel_rfl)

def s_spec_AnswerAt : Sig := { params := [.val false y34, .val true y74, .val false y3], res := [.val false y3, .row 3 y3 false, .val false y3, .val false y3, .val false y3], rgroups := [some 5] }
noncomputable def e_spec_AnswerAt : Entry := ⟨s_spec_AnswerAt, fun a => D.spec_AnswerAt a.1 a.2.1 a.2.2⟩
noncomputable def v_spec_AnswerAt : Env := { ti := look tab, Γ := fns [(152, [], e_spec_l5Copy)], loop := fun b => match b with | 0 => some [.slot 8 (.int .i64), .box 7 [.int .i64, .own 3 y3 false, .int .i64, .int .i64, .int .i64]] | _ => none, cut := fun _ => none, deep := fun _ => false }
theorem c_spec_AnswerAt : Contract Tryz.prog 120 e_spec_AnswerAt.sig e_spec_AnswerAt.F :=
  den_is (E := v_spec_AnswerAt) ⟨tab_ti, tab_eq⟩ (fns_cons c_spec_l5Copy (fns_nil _)) mixed Tryz.func120 (by kernel_rfl) (by kernel_rfl) (fun x => by kernel_rfl)

def s_spec_l9Has : Sig := { params := [.val false y132, .val true y74], res := [.val false y4] }
noncomputable def e_spec_l9Has : Entry := ⟨s_spec_l9Has, fun a => D.spec_l9Has a.1 a.2⟩
noncomputable def v_spec_l9Has : Env := { ti := look tab, Γ := fns [], loop := fun b => match b with | 0 => some [.slot 5 (.int .i64)] | _ => none, cut := fun _ => none, deep := fun _ => false }
theorem c_spec_l9Has : Contract Tryz.prog 121 e_spec_l9Has.sig e_spec_l9Has.F :=
  den_is (E := v_spec_l9Has) ⟨tab_ti, tab_eq⟩ (fns_nil _) mixed Tryz.func121 (by kernel_rfl) (by kernel_rfl) (fun x => by kernel_rfl)

def s_spec_FollowAt : Sig := { params := [.val false y34, .val true y74, .val false y3], res := [.val false y3, .row 3 y3 false, .val false y3, .val false y3, .val false y3, .row 74 y74 false], rgroups := [some 5, none] }
noncomputable def e_spec_FollowAt : Entry := ⟨s_spec_FollowAt, fun a => D.spec_FollowAt a.1 a.2.1 a.2.2⟩
noncomputable def v_spec_FollowAt : Env := { ti := look tab, Γ := fns [(120, [], e_spec_AnswerAt), (121, [], e_spec_l9Has)], loop := fun b => match b with | 0 => some [.slot 8 (.own 74 y74 false), .box 9 [.int .i64, .own 3 y3 false, .int .i64, .int .i64, .int .i64]] | _ => none, cut := fun _ => none, deep := fun _ => false }
theorem c_spec_FollowAt : Contract Tryz.prog 79 e_spec_FollowAt.sig e_spec_FollowAt.F :=
  den_is (E := v_spec_FollowAt) ⟨tab_ti, tab_eq⟩ (fns_cons c_spec_AnswerAt (fns_cons c_spec_l9Has (fns_nil _))) mixed Tryz.func79 (by kernel_rfl) (by kernel_rfl) (fun x => by kernel_rfl)

def s_spec_Min : Sig := { params := [.val false y3, .val false y3], res := [.val false y3] }
noncomputable def e_spec_Min : Entry := ⟨s_spec_Min, fun a => D.spec_Min a.1 a.2⟩
noncomputable def v_spec_Min : Env := { ti := look tab, Γ := fns [], loop := fun _ => none, cut := fun _ => none, deep := fun _ => false }
theorem c_spec_Min : Contract Tryz.prog 171 e_spec_Min.sig e_spec_Min.F :=
  den_is (E := v_spec_Min) ⟨tab_ti, tab_eq⟩ (fns_nil _) mixed Tryz.func171 (by kernel_rfl) (by kernel_rfl) (fun x => by kernel_rfl)

def s_spec_ValueOfResource : Sig := { params := [.val true y90], res := [.val false y3] }
noncomputable def e_spec_ValueOfResource : Entry := ⟨s_spec_ValueOfResource, fun a => D.spec_ValueOfResource a⟩
noncomputable def v_spec_ValueOfResource : Env := { ti := look tab, Γ := fns [(177, [], e_spec_IsResource), (171, [], e_spec_Min)], loop := fun b => match b with | 0 => some [.slot 3 (.int .i64), .slot 4 (.int .i64)] | _ => none, cut := fun _ => none, deep := fun _ => false }
theorem c_spec_ValueOfResource : Contract Tryz.prog 170 e_spec_ValueOfResource.sig e_spec_ValueOfResource.F :=
  den_is (E := v_spec_ValueOfResource) ⟨tab_ti, tab_eq⟩ (fns_cons c_spec_IsResource (fns_cons c_spec_Min (fns_nil _))) mixed Tryz.func170 (by kernel_rfl) (by kernel_rfl) (fun x => by kernel_rfl)

def s_spec_Mod : Sig := { params := [.val false y3, .val false y3], res := [.val false y3] }
noncomputable def e_spec_Mod : Entry := ⟨s_spec_Mod, fun a => D.spec_Mod a.1 a.2⟩
noncomputable def v_spec_Mod : Env := { ti := look tab, Γ := fns [(166, [], e_spec_l1In)], loop := fun _ => none, cut := fun _ => none, deep := fun _ => false }
theorem c_spec_Mod : Contract Tryz.prog 161 e_spec_Mod.sig e_spec_Mod.F :=
  den_is (E := v_spec_Mod) ⟨tab_ti, tab_eq⟩ (fns_cons c_spec_l1In (fns_nil _)) mixed Tryz.func161 (by kernel_rfl) (by kernel_rfl) (fun x => by kernel_rfl)

def s_spec_Hash : Sig := { params := [.val false y24], res := [.val false y3] }
noncomputable def e_spec_Hash : Entry := ⟨s_spec_Hash, fun a => D.spec_Hash a⟩
noncomputable def v_spec_Hash : Env := { ti := look tab, Γ := fns [(161, [], e_spec_Mod)], loop := fun b => match b with | 0 => some [.slot 3 (.int .i64), .slot 4 (.int .i64)] | _ => none, cut := fun _ => none, deep := fun _ => false }
theorem c_spec_Hash : Contract Tryz.prog 141 e_spec_Hash.sig e_spec_Hash.F :=
  den_is (E := v_spec_Hash) ⟨tab_ti, tab_eq⟩ (fns_cons c_spec_Mod (fns_nil _)) mixed Tryz.func141 (by kernel_rfl) (by kernel_rfl) (fun x => by kernel_rfl)

def s_spec_LiveValue : Sig := { params := [.val true y36, .val true y156, .val false y3], res := [.val false y3] }
noncomputable def e_spec_LiveValue : Entry := ⟨s_spec_LiveValue, fun a => D.spec_LiveValue a.1 a.2.1 a.2.2⟩
noncomputable def v_spec_LiveValue : Env := { ti := look tab, Γ := fns [(147, [], e_spec_IsVisit), (166, [], e_spec_l1In), (79, [], e_spec_FollowAt), (170, [], e_spec_ValueOfResource), (171, [], e_spec_Min), (141, [], e_spec_Hash), (161, [], e_spec_Mod)], loop := fun _ => none, cut := fun _ => none, deep := fun _ => false }
theorem c_spec_LiveValue : Contract Tryz.prog 150 e_spec_LiveValue.sig e_spec_LiveValue.F :=
  den_is (E := v_spec_LiveValue) ⟨tab_ti, tab_eq⟩ (fns_cons c_spec_IsVisit (fns_cons c_spec_l1In (fns_cons c_spec_FollowAt (fns_cons c_spec_ValueOfResource (fns_cons c_spec_Min (fns_cons c_spec_Hash (fns_cons c_spec_Mod (fns_nil _)))))))) mixed Tryz.func150 (by kernel_rfl) (by kernel_rfl) (fun x => by kernel_rfl)

def s_spec_l11Copy : Sig := { params := [.val true y63], res := [.val false y3, .row 3 y3 false, .row 3 y3 false, .row 3 y3 false], rgroups := [some 4] }
noncomputable def e_spec_l11Copy : Entry := ⟨s_spec_l11Copy, fun a => D.spec_l11Copy a⟩
noncomputable def v_spec_l11Copy : Env := { ti := look tab, Γ := fns [], loop := fun _ => none, cut := fun _ => none, deep := fun _ => false }
theorem c_spec_l11Copy : Contract Tryz.prog 119 e_spec_l11Copy.sig e_spec_l11Copy.F :=
  den_is (E := v_spec_l11Copy) ⟨tab_ti, tab_eq⟩ (fns_nil _) mixed Tryz.func119 (by kernel_rfl) (by kernel_rfl) (fun x => by kernel_rfl)

def s_spec_Max : Sig := { params := [.val false y3, .val false y3], res := [.val false y3] }
noncomputable def e_spec_Max : Entry := ⟨s_spec_Max, fun a => D.spec_Max a.1 a.2⟩
noncomputable def v_spec_Max : Env := { ti := look tab, Γ := fns [], loop := fun _ => none, cut := fun _ => none, deep := fun _ => false }
theorem c_spec_Max : Contract Tryz.prog 172 e_spec_Max.sig e_spec_Max.F :=
  den_is (E := v_spec_Max) ⟨tab_ti, tab_eq⟩ (fns_nil _) mixed Tryz.func172 (by kernel_rfl) (by kernel_rfl) (fun x => by kernel_rfl)

def s_spec_StepState : Sig := { params := [.val false y38, .val true y63, .val false y3], res := [.val false y3, .row 3 y3 false, .row 3 y3 false, .row 3 y3 false], rgroups := [some 4] }
noncomputable def e_spec_StepState : Entry := ⟨s_spec_StepState, fun a => D.spec_StepState a.1 a.2.1 a.2.2⟩
noncomputable def v_spec_StepState : Env := { ti := look tab, Γ := fns [(119, [], e_spec_l11Copy), (168, [], e_spec_l11Can), (171, [], e_spec_Min), (172, [], e_spec_Max)], loop := fun _ => none, cut := fun _ => none, deep := fun _ => false }
theorem c_spec_StepState : Contract Tryz.prog 151 e_spec_StepState.sig e_spec_StepState.F :=
  den_is (E := v_spec_StepState) ⟨tab_ti, tab_eq⟩ (fns_cons c_spec_l11Copy (fns_cons c_spec_l11Can (fns_cons c_spec_Min (fns_cons c_spec_Max (fns_nil _))))) mixed Tryz.func151 (by kernel_rfl) (by kernel_rfl) (fun x => by kernel_rfl)

def s_spec_l13Run : Sig := { params := [.val false y38, .val true y36], res := [.row 76 y76 false, .row 63 y63 false] }
noncomputable def e_spec_l13Run : Entry := ⟨s_spec_l13Run, fun a => D.spec_l13Run a.1 a.2⟩
noncomputable def v_spec_l13Run : Env := { ti := look tab, Γ := fns [(145, [], e_spec_StartState), (146, [], e_spec_IsScript), (147, [], e_spec_IsVisit), (148, [], e_spec_IsDone), (149, [], e_spec_WantOf), (150, [], e_spec_LiveValue), (151, [], e_spec_StepState)], loop := fun b => match b with | 0 => some [.slot 6 (.own 76 y76 false), .slot 8 (.own 63 y63 false), .box 7 [.int .i64, .ro 3 y3, .ro 3 y3, .ro 3 y3]] | _ => none, cut := fun _ => none, deep := fun _ => false }
theorem c_spec_l13Run : Contract Tryz.prog 118 e_spec_l13Run.sig e_spec_l13Run.F :=
  den_is (E := v_spec_l13Run) ⟨tab_ti, tab_eq⟩ (fns_cons c_spec_StartState (fns_cons c_spec_IsScript (fns_cons c_spec_IsVisit (fns_cons c_spec_IsDone (fns_cons c_spec_WantOf (fns_cons c_spec_LiveValue (fns_cons c_spec_StepState (fns_nil _)))))))) mixed Tryz.func118 (by kernel_rfl) (by kernel_rfl) (fun x => by kernel_rfl)

def s_spec_RecordVisit : Sig := { params := [.val false y38, .val true y36], res := [.row 76 y76 false, .val false y3, .row 3 y3 false, .row 3 y3 false, .row 3 y3 false], rgroups := [none, some 4] }
noncomputable def e_spec_RecordVisit : Entry := ⟨s_spec_RecordVisit, fun a => D.spec_RecordVisit a.1 a.2⟩
noncomputable def v_spec_RecordVisit : Env := { ti := look tab, Γ := fns [(118, [], e_spec_l13Run), (119, [], e_spec_l11Copy)], loop := fun _ => none, cut := fun _ => none, deep := fun _ => false }
theorem c_spec_RecordVisit : Contract Tryz.prog 78 e_spec_RecordVisit.sig e_spec_RecordVisit.F :=
  den_is (E := v_spec_RecordVisit) ⟨tab_ti, tab_eq⟩ (fns_cons c_spec_l13Run (fns_cons c_spec_l11Copy (fns_nil _))) mixed Tryz.func78 (by kernel_rfl) (by kernel_rfl) (fun x => by kernel_rfl)

def s_spec_CapturesOf : Sig := { params := [.val false y38, .val true y36], res := [.row 92 y92 true] }
noncomputable def e_spec_CapturesOf : Entry := ⟨s_spec_CapturesOf, fun a => D.spec_CapturesOf a.1 a.2⟩
noncomputable def v_spec_CapturesOf : Env := { ti := look tab, Γ := fns [(78, [], e_spec_RecordVisit), (79, [], e_spec_FollowAt)], loop := fun b => match b with | 0 => some [.slot 5 (.own 92 y92 true), .slot 8 (.int .i64)] | _ => none, cut := fun _ => none, deep := fun t => Nat.beq t 11 || Nat.beq t 57 }
theorem c_spec_CapturesOf : Contract Tryz.prog 37 e_spec_CapturesOf.sig e_spec_CapturesOf.F :=
  den_is (E := v_spec_CapturesOf) ⟨tab_ti, tab_eq⟩ (fns_cons c_spec_RecordVisit (fns_cons c_spec_FollowAt (fns_nil _))) mixed Tryz.func37 (by kernel_rfl) (by kernel_rfl) (fun x => by kernel_rfl)

def s_spec_EqualInts : Sig := { params := [.val false y24, .val false y24], res := [.val false y4] }
noncomputable def e_spec_EqualInts : Entry := ⟨s_spec_EqualInts, fun a => D.spec_EqualInts a.1 a.2⟩
noncomputable def v_spec_EqualInts : Env := { ti := look tab, Γ := fns [], loop := fun b => match b with | 0 => some [.slot 5 (.int .i64)] | _ => none, cut := fun _ => none, deep := fun _ => false }
theorem c_spec_EqualInts : Contract Tryz.prog 153 e_spec_EqualInts.sig e_spec_EqualInts.F :=
  den_is (E := v_spec_EqualInts) ⟨tab_ti, tab_eq⟩ (fns_nil _) mixed Tryz.func153 (by kernel_rfl) (by kernel_rfl) (fun x => by kernel_rfl)

def s_spec_EqualResources : Sig := { params := [.val true y90, .val true y90], res := [.val false y4] }
noncomputable def e_spec_EqualResources : Entry := ⟨s_spec_EqualResources, fun a => D.spec_EqualResources a.1 a.2⟩
noncomputable def v_spec_EqualResources : Env := { ti := look tab, Γ := fns [(153, [], e_spec_EqualInts)], loop := fun _ => none, cut := fun _ => none, deep := fun _ => false }
theorem c_spec_EqualResources : Contract Tryz.prog 122 e_spec_EqualResources.sig e_spec_EqualResources.F :=
  den_is (E := v_spec_EqualResources) ⟨tab_ti, tab_eq⟩ (fns_cons c_spec_EqualInts (fns_nil _)) mixed Tryz.func122 (by kernel_rfl) (by kernel_rfl) (fun x => by kernel_rfl)

def s_spec_l15Same : Sig := { params := [.val true y92, .val true y92], res := [.val false y4] }
noncomputable def e_spec_l15Same : Entry := ⟨s_spec_l15Same, fun a => D.spec_l15Same a.1 a.2⟩
noncomputable def v_spec_l15Same : Env := { ti := look tab, Γ := fns [(122, [], e_spec_EqualResources)], loop := fun _ => none, cut := fun _ => none, deep := fun _ => false }
theorem c_spec_l15Same : Contract Tryz.prog 80 e_spec_l15Same.sig e_spec_l15Same.F :=
  den_is (E := v_spec_l15Same) ⟨tab_ti, tab_eq⟩ (fns_cons c_spec_EqualResources (fns_nil _)) mixed Tryz.func80 (by kernel_rfl) (by kernel_rfl) (fun x => by kernel_rfl)

def s_spec_l20In : Sig := { params := [.val false y32, .val true y92], res := [.val false y4] }
noncomputable def e_spec_l20In : Entry := ⟨s_spec_l20In, fun a => D.spec_l20In a.1 a.2⟩
noncomputable def v_spec_l20In : Env := { ti := look tab, Γ := fns [(80, [], e_spec_l15Same)], loop := fun b => match b with | 0 => some [.slot 5 (.int .i64)] | _ => none, cut := fun _ => none, deep := fun _ => false }
theorem c_spec_l20In : Contract Tryz.prog 38 e_spec_l20In.sig e_spec_l20In.F :=
  den_is (E := v_spec_l20In) ⟨tab_ti, tab_eq⟩ (fns_cons c_spec_l15Same (fns_nil _)) mixed Tryz.func38 (by kernel_rfl) (by kernel_rfl) (fun x => by kernel_rfl)

def s_spec_CoverageOf : Sig := { params := [.val false y32, .val false y47, .val false y38], res := [.val false y3] }
noncomputable def e_spec_CoverageOf : Entry := ⟨s_spec_CoverageOf, fun a => D.spec_CoverageOf a.1 a.2.1 a.2.2⟩
noncomputable def v_spec_CoverageOf : Env := { ti := look tab, Γ := fns [(37, [], e_spec_CapturesOf), (38, [], e_spec_l20In)], loop := fun b => match b with | 0 => some [.slot 7 (.int .i64), .slot 8 (.int .i64)] | 2 => some [.slot 7 (.int .i64), .slot 10 (.int .i64)] | _ => none, cut := fun _ => none, deep := fun _ => false }
theorem c_spec_CoverageOf : Contract Tryz.prog 18 e_spec_CoverageOf.sig e_spec_CoverageOf.F :=
  den_is (E := v_spec_CoverageOf) ⟨tab_ti, tab_eq⟩ (fns_cons c_spec_CapturesOf (fns_cons c_spec_l20In (fns_nil _))) mixed Tryz.func18 (by kernel_rfl) (by kernel_rfl) (fun x => by kernel_rfl)

def s_impl_StartState : Sig := { params := [], res := [.val false y3, .row 3 y3 false, .row 3 y3 false, .row 3 y3 false], rgroups := [some 4] }
noncomputable def e_impl_StartState : Entry := ⟨s_impl_StartState, fun _ => D.impl_StartState⟩
noncomputable def v_impl_StartState : Env := { ti := look tab, Γ := fns [], loop := fun _ => none, cut := fun _ => none, deep := fun _ => false }
theorem c_impl_StartState : Contract Tryz.prog 99 e_impl_StartState.sig e_impl_StartState.F :=
  den_is (E := v_impl_StartState) ⟨tab_ti, tab_eq⟩ (fns_nil _) mixed Tryz.func99 (by kernel_rfl) (by kernel_rfl) (fun x => by kernel_rfl)

def s_impl_at : Sig := { params := [.val false y3, .val false y3], res := [.val false y4] }
noncomputable def e_impl_at : Entry := ⟨s_impl_at, fun a => D.impl_at a.1 a.2⟩
noncomputable def v_impl_at : Env := { ti := look tab, Γ := fns [], loop := fun _ => none, cut := fun _ => none, deep := fun _ => false }
theorem c_impl_at : Contract Tryz.prog 94 e_impl_at.sig e_impl_at.F :=
  den_is (E := v_impl_at) ⟨tab_ti, tab_eq⟩ (fns_nil _) mixed Tryz.func94 (by kernel_rfl) (by kernel_rfl) (fun x => by kernel_rfl)

def s_impl_InRange : Sig := { params := [.val false y3, .val false y3, .val false y3], res := [.val false y4] }
noncomputable def e_impl_InRange : Entry := ⟨s_impl_InRange, fun a => D.impl_InRange a.1 a.2.1 a.2.2⟩
noncomputable def v_impl_InRange : Env := { ti := look tab, Γ := fns [], loop := fun _ => none, cut := fun _ => none, deep := fun _ => false }
theorem c_impl_InRange : Contract Tryz.prog 54 e_impl_InRange.sig e_impl_InRange.F :=
  den_is (E := v_impl_InRange) ⟨tab_ti, tab_eq⟩ (fns_nil _) mixed Tryz.func54 (by kernel_rfl) (by kernel_rfl) (fun x => by kernel_rfl)

def s_impl_isOp : Sig := { params := [.val true y97], res := [.val false y4] }
noncomputable def e_impl_isOp : Entry := ⟨s_impl_isOp, fun a => D.impl_isOp a⟩
noncomputable def v_impl_isOp : Env := { ti := look tab, Γ := fns [(94, [], e_impl_at), (54, [], e_impl_InRange)], loop := fun _ => none, cut := fun _ => none, deep := fun _ => false }
theorem c_impl_isOp : Contract Tryz.prog 52 e_impl_isOp.sig e_impl_isOp.F :=
  den_is (E := v_impl_isOp) ⟨tab_ti, tab_eq⟩ (fns_cons c_impl_at (fns_cons c_impl_InRange (fns_nil _))) mixed Tryz.func52 (by kernel_rfl) (by kernel_rfl) (fun x => by kernel_rfl)

def s_impl_IsScript_1 : Sig := { params := [.val true y97], res := [.val false y4] }
noncomputable def e_impl_IsScript_1 : Entry := ⟨s_impl_IsScript_1, fun a => D.impl_IsScript_1 a⟩
noncomputable def v_impl_IsScript_1 : Env := { ti := look tab, Γ := fns [(52, [], e_impl_isOp)], loop := fun _ => none, cut := fun _ => none, deep := fun _ => false }
theorem c_impl_IsScript_1 : Contract Tryz.prog 51 e_impl_IsScript_1.sig e_impl_IsScript_1.F :=
  den_is (E := v_impl_IsScript_1) ⟨tab_ti, tab_eq⟩ (fns_cons c_impl_isOp (fns_nil _)) mixed Tryz.func51 (by kernel_rfl) (by kernel_rfl) (fun x => by kernel_rfl)

def s_slices_IndexFunc_Op_impl_IsScript_1 : Sig := { params := [.val false y38, .fn 51 []], res := [.val false y3] }
noncomputable def e_slices_IndexFunc_Op_impl_IsScript_1 : Entry := ⟨s_slices_IndexFunc_Op_impl_IsScript_1, fun a => D.slices_IndexFunc_Op_impl_IsScript_1 a.1⟩
noncomputable def v_slices_IndexFunc_Op_impl_IsScript_1 : Env := { ti := look tab, Γ := fns [(51, [], e_impl_IsScript_1)], loop := fun b => match b with | 0 => some [.slot 8 (.int .i64)] | _ => none, cut := fun _ => none, deep := fun _ => false }
theorem c_slices_IndexFunc_Op_impl_IsScript_1 : Contract Tryz.prog 93 e_slices_IndexFunc_Op_impl_IsScript_1.sig e_slices_IndexFunc_Op_impl_IsScript_1.F :=
  den_is (E := v_slices_IndexFunc_Op_impl_IsScript_1) ⟨tab_ti, tab_eq⟩ (fns_cons c_impl_IsScript_1 (fns_nil _)) mixed Tryz.func93 (by kernel_rfl) (by kernel_rfl) (fun x => by kernel_rfl)

def s_slices_ContainsFunc_Op_impl_IsScript_1 : Sig := { params := [.val false y38, .fn 51 []], res := [.val false y4] }
noncomputable def e_slices_ContainsFunc_Op_impl_IsScript_1 : Entry := ⟨s_slices_ContainsFunc_Op_impl_IsScript_1, fun a => D.slices_ContainsFunc_Op_impl_IsScript_1 a.1⟩
noncomputable def v_slices_ContainsFunc_Op_impl_IsScript_1 : Env := { ti := look tab, Γ := fns [(93, [51], e_slices_IndexFunc_Op_impl_IsScript_1)], loop := fun _ => none, cut := fun _ => none, deep := fun _ => false }
theorem c_slices_ContainsFunc_Op_impl_IsScript_1 : Contract Tryz.prog 50 e_slices_ContainsFunc_Op_impl_IsScript_1.sig e_slices_ContainsFunc_Op_impl_IsScript_1.F :=
  den_is (E := v_slices_ContainsFunc_Op_impl_IsScript_1) ⟨tab_ti, tab_eq⟩ (fns_cons c_slices_IndexFunc_Op_impl_IsScript_1 (fns_nil _)) mixed Tryz.func50 (by kernel_rfl) (by kernel_rfl) (fun x => by kernel_rfl)

def s_impl_IsScript : Sig := { params := [.val false y38], res := [.val false y4] }
noncomputable def e_impl_IsScript : Entry := ⟨s_impl_IsScript, fun a => D.impl_IsScript a⟩
noncomputable def v_impl_IsScript : Env := { ti := look tab, Γ := fns [(50, [51], e_slices_ContainsFunc_Op_impl_IsScript_1)], loop := fun _ => none, cut := fun _ => none, deep := fun _ => false }
theorem c_impl_IsScript : Contract Tryz.prog 25 e_impl_IsScript.sig e_impl_IsScript.F :=
  den_is (E := v_impl_IsScript) ⟨tab_ti, tab_eq⟩ (fns_cons c_slices_ContainsFunc_Op_impl_IsScript_1 (fns_nil _)) mixed Tryz.func25 (by kernel_rfl) (by kernel_rfl) (fun x => by kernel_rfl)

def s_impl_IsAddress : Sig := { params := [.val true y74], res := [.val false y4] }
noncomputable def e_impl_IsAddress : Entry := ⟨s_impl_IsAddress, fun a => D.impl_IsAddress a⟩
noncomputable def v_impl_IsAddress : Env := { ti := look tab, Γ := fns [(54, [], e_impl_InRange)], loop := fun _ => none, cut := fun _ => none, deep := fun _ => false }
theorem c_impl_IsAddress : Contract Tryz.prog 97 e_impl_IsAddress.sig e_impl_IsAddress.F :=
  den_is (E := v_impl_IsAddress) ⟨tab_ti, tab_eq⟩ (fns_cons c_impl_InRange (fns_nil _)) mixed Tryz.func97 (by kernel_rfl) (by kernel_rfl) (fun x => by kernel_rfl)

def s_impl_allIn : Sig := { params := [.val false y24, .val false y3, .val false y3], res := [.val false y4] }
noncomputable def e_impl_allIn : Entry := ⟨s_impl_allIn, fun a => D.impl_allIn a.1 a.2.1 a.2.2⟩
noncomputable def v_impl_allIn : Env := { ti := look tab, Γ := fns [(54, [], e_impl_InRange)], loop := fun b => match b with | 0 => some [.slot 11 (.int .i64)] | _ => none, cut := fun _ => none, deep := fun _ => false }
theorem c_impl_allIn : Contract Tryz.prog 55 e_impl_allIn.sig e_impl_allIn.F :=
  den_is (E := v_impl_allIn) ⟨tab_ti, tab_eq⟩ (fns_cons c_impl_InRange (fns_nil _)) mixed Tryz.func55 (by kernel_rfl) (by kernel_rfl) (fun x => by kernel_rfl)

def s_impl_IsResource : Sig := { params := [.val true y90], res := [.val false y4] }
noncomputable def e_impl_IsResource : Entry := ⟨s_impl_IsResource, fun a => D.impl_IsResource a⟩
noncomputable def v_impl_IsResource : Env := { ti := look tab, Γ := fns [(55, [], e_impl_allIn), (97, [], e_impl_IsAddress)], loop := fun _ => none, cut := fun _ => none, deep := fun _ => false }
theorem c_impl_IsResource : Contract Tryz.prog 98 e_impl_IsResource.sig e_impl_IsResource.F :=
  den_is (E := v_impl_IsResource) ⟨tab_ti, tab_eq⟩ (fns_cons c_impl_allIn (fns_cons c_impl_IsAddress (fns_nil _))) mixed Tryz.func98 (by kernel_rfl) (by kernel_rfl) (fun x => by kernel_rfl)

def s_impl_IsSite_1 : Sig := { params := [.val true y138], res := [.val false y4] }
noncomputable def e_impl_IsSite_1 : Entry := ⟨s_impl_IsSite_1, fun a => D.impl_IsSite_1 a⟩
noncomputable def v_impl_IsSite_1 : Env := { ti := look tab, Γ := fns [(97, [], e_impl_IsAddress), (54, [], e_impl_InRange), (98, [], e_impl_IsResource)], loop := fun _ => none, cut := fun _ => none, deep := fun _ => false }
theorem c_impl_IsSite_1 : Contract Tryz.prog 96 e_impl_IsSite_1.sig e_impl_IsSite_1.F :=
  den_is (E := v_impl_IsSite_1) ⟨tab_ti, tab_eq⟩ (fns_cons c_impl_IsAddress (fns_cons c_impl_InRange (fns_cons c_impl_IsResource (fns_nil _)))) mixed Tryz.func96 (by kernel_rfl) (by kernel_rfl) (fun x => by kernel_rfl)

def s_slices_IndexFunc_Version_impl_IsSite_1 : Sig := { params := [.val false y34, .fn 96 []], res := [.val false y3] }
noncomputable def e_slices_IndexFunc_Version_impl_IsSite_1 : Entry := ⟨s_slices_IndexFunc_Version_impl_IsSite_1, fun a => D.slices_IndexFunc_Version_impl_IsSite_1 a.1⟩
noncomputable def v_slices_IndexFunc_Version_impl_IsSite_1 : Env := { ti := look tab, Γ := fns [(96, [], e_impl_IsSite_1)], loop := fun b => match b with | 0 => some [.slot 8 (.int .i64)] | _ => none, cut := fun _ => none, deep := fun _ => false }
theorem c_slices_IndexFunc_Version_impl_IsSite_1 : Contract Tryz.prog 132 e_slices_IndexFunc_Version_impl_IsSite_1.sig e_slices_IndexFunc_Version_impl_IsSite_1.F :=
  den_is (E := v_slices_IndexFunc_Version_impl_IsSite_1) ⟨tab_ti, tab_eq⟩ (fns_cons c_impl_IsSite_1 (fns_nil _)) mixed Tryz.func132 (by kernel_rfl) (by kernel_rfl) (fun x => by kernel_rfl)

def s_slices_ContainsFunc_Version_impl_IsSite_1 : Sig := { params := [.val false y34, .fn 96 []], res := [.val false y4] }
noncomputable def e_slices_ContainsFunc_Version_impl_IsSite_1 : Entry := ⟨s_slices_ContainsFunc_Version_impl_IsSite_1, fun a => D.slices_ContainsFunc_Version_impl_IsSite_1 a.1⟩
noncomputable def v_slices_ContainsFunc_Version_impl_IsSite_1 : Env := { ti := look tab, Γ := fns [(132, [96], e_slices_IndexFunc_Version_impl_IsSite_1)], loop := fun _ => none, cut := fun _ => none, deep := fun _ => false }
theorem c_slices_ContainsFunc_Version_impl_IsSite_1 : Contract Tryz.prog 95 e_slices_ContainsFunc_Version_impl_IsSite_1.sig e_slices_ContainsFunc_Version_impl_IsSite_1.F :=
  den_is (E := v_slices_ContainsFunc_Version_impl_IsSite_1) ⟨tab_ti, tab_eq⟩ (fns_cons c_slices_IndexFunc_Version_impl_IsSite_1 (fns_nil _)) mixed Tryz.func95 (by kernel_rfl) (by kernel_rfl) (fun x => by kernel_rfl)

def s_impl_IsSite : Sig := { params := [.val false y34], res := [.val false y4] }
noncomputable def e_impl_IsSite : Entry := ⟨s_impl_IsSite, fun a => D.impl_IsSite a⟩
noncomputable def v_impl_IsSite : Env := { ti := look tab, Γ := fns [(95, [96], e_slices_ContainsFunc_Version_impl_IsSite_1)], loop := fun _ => none, cut := fun _ => none, deep := fun _ => false }
theorem c_impl_IsSite : Contract Tryz.prog 53 e_impl_IsSite.sig e_impl_IsSite.F :=
  den_is (E := v_impl_IsSite) ⟨tab_ti, tab_eq⟩ (fns_cons c_slices_ContainsFunc_Version_impl_IsSite_1 (fns_nil _)) mixed Tryz.func53 (by kernel_rfl) (by kernel_rfl) (fun x => by kernel_rfl)

def s_impl_IsVisit : Sig := { params := [.val true y36], res := [.val false y4] }
noncomputable def e_impl_IsVisit : Entry := ⟨s_impl_IsVisit, fun a => D.impl_IsVisit a⟩
noncomputable def v_impl_IsVisit : Env := { ti := look tab, Γ := fns [(53, [], e_impl_IsSite), (54, [], e_impl_InRange), (55, [], e_impl_allIn)], loop := fun _ => none, cut := fun _ => none, deep := fun _ => false }
theorem c_impl_IsVisit : Contract Tryz.prog 26 e_impl_IsVisit.sig e_impl_IsVisit.F :=
  den_is (E := v_impl_IsVisit) ⟨tab_ti, tab_eq⟩ (fns_cons c_impl_IsSite (fns_cons c_impl_InRange (fns_cons c_impl_allIn (fns_nil _)))) mixed Tryz.func26 (by kernel_rfl) (by kernel_rfl) (fun x => by kernel_rfl)

def s_impl_IsDone : Sig := { params := [.val false y38, .val true y63], res := [.val false y4] }
noncomputable def e_impl_IsDone : Entry := ⟨s_impl_IsDone, fun a => D.impl_IsDone a.1 a.2⟩
noncomputable def v_impl_IsDone : Env := { ti := look tab, Γ := fns [], loop := fun _ => none, cut := fun _ => none, deep := fun _ => false }
theorem c_impl_IsDone : Contract Tryz.prog 100 e_impl_IsDone.sig e_impl_IsDone.F :=
  den_is (E := v_impl_IsDone) ⟨tab_ti, tab_eq⟩ (fns_nil _) mixed Tryz.func100 (by kernel_rfl) (by kernel_rfl) (fun x => by kernel_rfl)

def s_impl_IsState : Sig := { params := [.val true y63], res := [.val false y4] }
noncomputable def e_impl_IsState : Entry := ⟨s_impl_IsState, fun a => D.impl_IsState a⟩
noncomputable def v_impl_IsState : Env := { ti := look tab, Γ := fns [(54, [], e_impl_InRange), (55, [], e_impl_allIn)], loop := fun _ => none, cut := fun _ => none, deep := fun _ => false }
theorem c_impl_IsState : Contract Tryz.prog 159 e_impl_IsState.sig e_impl_IsState.F :=
  den_is (E := v_impl_IsState) ⟨tab_ti, tab_eq⟩ (fns_cons c_impl_InRange (fns_cons c_impl_allIn (fns_nil _))) mixed Tryz.func159 (by kernel_rfl) (by kernel_rfl) (fun x => by kernel_rfl)

def s_impl_canStep : Sig := { params := [.val false y38, .val true y63], res := [.val false y4] }
noncomputable def e_impl_canStep : Entry := ⟨s_impl_canStep, fun a => D.impl_canStep a.1 a.2⟩
noncomputable def v_impl_canStep : Env := { ti := look tab, Γ := fns [(25, [], e_impl_IsScript), (159, [], e_impl_IsState)], loop := fun _ => none, cut := fun _ => none, deep := fun _ => false }
theorem c_impl_canStep : Contract Tryz.prog 133 e_impl_canStep.sig e_impl_canStep.F :=
  den_is (E := v_impl_canStep) ⟨tab_ti, tab_eq⟩ (fns_cons c_impl_IsScript (fns_cons c_impl_IsState (fns_nil _))) mixed Tryz.func133 (by kernel_rfl) (by kernel_rfl) (fun x => by kernel_rfl)

def s_impl_Asks : Sig := { params := [.val false y3], res := [.val false y4] }
noncomputable def e_impl_Asks : Entry := ⟨s_impl_Asks, fun a => D.impl_Asks a⟩
noncomputable def v_impl_Asks : Env := { ti := look tab, Γ := fns [(54, [], e_impl_InRange)], loop := fun _ => none, cut := fun _ => none, deep := fun _ => false }
theorem c_impl_Asks : Contract Tryz.prog 108 e_impl_Asks.sig e_impl_Asks.F :=
  den_is (E := v_impl_Asks) ⟨tab_ti, tab_eq⟩ (fns_cons c_impl_InRange (fns_nil _)) mixed Tryz.func108 (by kernel_rfl) (by kernel_rfl) (fun x => by kernel_rfl)

def s_impl_WantOf : Sig := { params := [.val false y38, .val true y63], res := [.val true y156] }
noncomputable def e_impl_WantOf : Entry := ⟨s_impl_WantOf, fun a => D.impl_WantOf a.1 a.2⟩
noncomputable def v_impl_WantOf : Env := { ti := look tab, Γ := fns [(133, [], e_impl_canStep), (108, [], e_impl_Asks)], loop := fun _ => none, cut := fun _ => none, deep := fun _ => false }
theorem c_impl_WantOf : Contract Tryz.prog 101 e_impl_WantOf.sig e_impl_WantOf.F :=
  den_is (E := v_impl_WantOf) ⟨tab_ti, tab_eq⟩ (fns_cons c_impl_canStep (fns_cons c_impl_Asks (fns_nil _))) mixed Tryz.func101 (by kernel_rfl) (by kernel_rfl) (fun x => by kernel_rfl)

def s_slices_Clone_int : Sig := { params := [.val false y24], res := [.row 3 y3 false] }
noncomputable def e_slices_Clone_int : Entry := ⟨s_slices_Clone_int, fun a => D.slices_Clone_int a⟩
noncomputable def v_slices_Clone_int : Env := { ti := look tab, Γ := fns [], loop := fun _ => none, cut := fun _ => none, deep := fun _ => false }
theorem c_slices_Clone_int : Contract Tryz.prog 135 e_slices_Clone_int.sig e_slices_Clone_int.F :=
  den_is (E := v_slices_Clone_int) ⟨tab_ti, tab_eq⟩ (fns_nil _) mixed Tryz.func135 (by kernel_rfl) (by kernel_rfl) (fun x => by kernel_rfl)

def s_impl_copyResource : Sig := { params := [.val true y90], res := [.val false y3, .row 3 y3 false, .val false y3, .val false y3, .val false y3], rgroups := [some 5] }
noncomputable def e_impl_copyResource : Entry := ⟨s_impl_copyResource, fun a => D.impl_copyResource a⟩
noncomputable def v_impl_copyResource : Env := { ti := look tab, Γ := fns [(135, [], e_slices_Clone_int)], loop := fun _ => none, cut := fun _ => none, deep := fun _ => false }
theorem c_impl_copyResource : Contract Tryz.prog 112 e_impl_copyResource.sig e_impl_copyResource.F :=
  den_is (E := v_impl_copyResource) ⟨tab_ti, tab_eq⟩ (fns_cons c_slices_Clone_int (fns_nil _)) mixed Tryz.func112 (by kernel_rfl) (by kernel_rfl) (fun x => by kernel_rfl)

def s_impl_AnswerAt : Sig := { params := [.val false y34, .val true y74, .val false y3], res := [.val false y3, .row 3 y3 false, .val false y3, .val false y3, .val false y3], rgroups := [some 5] }
noncomputable def e_impl_AnswerAt : Entry := ⟨s_impl_AnswerAt, fun a => D.impl_AnswerAt a.1 a.2.1 a.2.2⟩
noncomputable def v_impl_AnswerAt : Env := { ti := look tab, Γ := fns [(112, [], e_impl_copyResource)], loop := fun b => match b with | 0 => some [.slot 7 (.int .i64), .box 6 [.int .i64, .ro 3 y3, .int .i64, .int .i64, .int .i64]] | _ => none, cut := fun _ => none, deep := fun _ => false }
theorem c_impl_AnswerAt : Contract Tryz.prog 123 e_impl_AnswerAt.sig e_impl_AnswerAt.F :=
  den_is (E := v_impl_AnswerAt) ⟨tab_ti, tab_eq⟩ (fns_cons c_impl_copyResource (fns_nil _)) mixed Tryz.func123 (by kernel_rfl) (by kernel_rfl) (fun x => by kernel_rfl)

def s_slices_Index_Address : Sig := { params := [.val false y132, .val true y74], res := [.val false y3] }
noncomputable def e_slices_Index_Address : Entry := ⟨s_slices_Index_Address, fun a => D.slices_Index_Address a.1 a.2⟩
noncomputable def v_slices_Index_Address : Env := { ti := look tab, Γ := fns [], loop := fun b => match b with | 0 => some [.slot 8 (.int .i64)] | _ => none, cut := fun _ => none, deep := fun _ => false }
theorem c_slices_Index_Address : Contract Tryz.prog 154 e_slices_Index_Address.sig e_slices_Index_Address.F :=
  den_is (E := v_slices_Index_Address) ⟨tab_ti, tab_eq⟩ (fns_nil _) mixed Tryz.func154 (by kernel_rfl) (by kernel_rfl) (fun x => by kernel_rfl)

def s_slices_Contains_Address : Sig := { params := [.val false y132, .val true y74], res := [.val false y4] }
noncomputable def e_slices_Contains_Address : Entry := ⟨s_slices_Contains_Address, fun a => D.slices_Contains_Address a.1 a.2⟩
noncomputable def v_slices_Contains_Address : Env := { ti := look tab, Γ := fns [(154, [], e_slices_Index_Address)], loop := fun _ => none, cut := fun _ => none, deep := fun _ => false }
theorem c_slices_Contains_Address : Contract Tryz.prog 124 e_slices_Contains_Address.sig e_slices_Contains_Address.F :=
  den_is (E := v_slices_Contains_Address) ⟨tab_ti, tab_eq⟩ (fns_cons c_slices_Index_Address (fns_nil _)) mixed Tryz.func124 (by kernel_rfl) (by kernel_rfl) (fun x => by kernel_rfl)

def s_impl_FollowAt : Sig := { params := [.val false y34, .val true y74, .val false y3], res := [.val false y3, .row 3 y3 false, .val false y3, .val false y3, .val false y3, .row 74 y74 false], rgroups := [some 5, none] }
noncomputable def e_impl_FollowAt : Entry := ⟨s_impl_FollowAt, fun a => D.impl_FollowAt a.1 a.2.1 a.2.2⟩
noncomputable def v_impl_FollowAt : Env := { ti := look tab, Γ := fns [(123, [], e_impl_AnswerAt), (124, [], e_slices_Contains_Address)], loop := fun b => match b with | 0 => some [.slot 9 (.own 74 y74 false), .box 8 [.int .i64, .own 3 y3 false, .int .i64, .int .i64, .int .i64]] | _ => none, cut := fun _ => none, deep := fun _ => false }
theorem c_impl_FollowAt : Contract Tryz.prog 84 e_impl_FollowAt.sig e_impl_FollowAt.F :=
  den_is (E := v_impl_FollowAt) ⟨tab_ti, tab_eq⟩ (fns_cons c_impl_AnswerAt (fns_cons c_slices_Contains_Address (fns_nil _))) mixed Tryz.func84 (by kernel_rfl) (by kernel_rfl) (fun x => by kernel_rfl)

def s_impl_hasBody : Sig := { params := [.val false y3], res := [.val false y4] }
noncomputable def e_impl_hasBody : Entry := ⟨s_impl_hasBody, fun a => D.impl_hasBody a⟩
noncomputable def v_impl_hasBody : Env := { ti := look tab, Γ := fns [], loop := fun _ => none, cut := fun _ => none, deep := fun _ => false }
theorem c_impl_hasBody : Contract Tryz.prog 160 e_impl_hasBody.sig e_impl_hasBody.F :=
  den_is (E := v_impl_hasBody) ⟨tab_ti, tab_eq⟩ (fns_nil _) mixed Tryz.func160 (by kernel_rfl) (by kernel_rfl) (fun x => by kernel_rfl)

def s_impl_ValueOfResource : Sig := { params := [.val true y90], res := [.val false y3] }
noncomputable def e_impl_ValueOfResource : Entry := ⟨s_impl_ValueOfResource, fun a => D.impl_ValueOfResource a⟩
noncomputable def v_impl_ValueOfResource : Env := { ti := look tab, Γ := fns [(98, [], e_impl_IsResource), (160, [], e_impl_hasBody)], loop := fun b => match b with | 0 => some [.slot 3 (.int .i64), .slot 18 (.int .i64)] | _ => none, cut := fun _ => none, deep := fun _ => false }
theorem c_impl_ValueOfResource : Contract Tryz.prog 134 e_impl_ValueOfResource.sig e_impl_ValueOfResource.F :=
  den_is (E := v_impl_ValueOfResource) ⟨tab_ti, tab_eq⟩ (fns_cons c_impl_IsResource (fns_cons c_impl_hasBody (fns_nil _))) mixed Tryz.func134 (by kernel_rfl) (by kernel_rfl) (fun x => by kernel_rfl)

def s_impl_Mod : Sig := { params := [.val false y3, .val false y3], res := [.val false y3] }
noncomputable def e_impl_Mod : Entry := ⟨s_impl_Mod, fun a => D.impl_Mod a.1 a.2⟩
noncomputable def v_impl_Mod : Env := { ti := look tab, Γ := fns [(54, [], e_impl_InRange)], loop := fun _ => none, cut := fun _ => none, deep := fun _ => false }
theorem c_impl_Mod : Contract Tryz.prog 110 e_impl_Mod.sig e_impl_Mod.F :=
  den_is (E := v_impl_Mod) ⟨tab_ti, tab_eq⟩ (fns_cons c_impl_InRange (fns_nil _)) mixed Tryz.func110 (by kernel_rfl) (by kernel_rfl) (fun x => by kernel_rfl)

def s_impl_Hash : Sig := { params := [.val false y24], res := [.val false y3] }
noncomputable def e_impl_Hash : Entry := ⟨s_impl_Hash, fun a => D.impl_Hash a⟩
noncomputable def v_impl_Hash : Env := { ti := look tab, Γ := fns [(110, [], e_impl_Mod)], loop := fun b => match b with | 0 => some [.slot 3 (.int .i64), .slot 8 (.int .i64)] | _ => none, cut := fun _ => none, deep := fun _ => false }
theorem c_impl_Hash : Contract Tryz.prog 62 e_impl_Hash.sig e_impl_Hash.F :=
  den_is (E := v_impl_Hash) ⟨tab_ti, tab_eq⟩ (fns_cons c_impl_Mod (fns_nil _)) mixed Tryz.func62 (by kernel_rfl) (by kernel_rfl) (fun x => by kernel_rfl)

def s_impl_LiveValue : Sig := { params := [.val true y36, .val true y156, .val false y3], res := [.val false y3] }
noncomputable def e_impl_LiveValue : Entry := ⟨s_impl_LiveValue, fun a => D.impl_LiveValue a.1 a.2.1 a.2.2⟩
noncomputable def v_impl_LiveValue : Env := { ti := look tab, Γ := fns [(26, [], e_impl_IsVisit), (54, [], e_impl_InRange), (84, [], e_impl_FollowAt), (134, [], e_impl_ValueOfResource), (62, [], e_impl_Hash), (110, [], e_impl_Mod)], loop := fun _ => none, cut := fun _ => none, deep := fun _ => false }
theorem c_impl_LiveValue : Contract Tryz.prog 102 e_impl_LiveValue.sig e_impl_LiveValue.F :=
  den_is (E := v_impl_LiveValue) ⟨tab_ti, tab_eq⟩ (fns_cons c_impl_IsVisit (fns_cons c_impl_InRange (fns_cons c_impl_FollowAt (fns_cons c_impl_ValueOfResource (fns_cons c_impl_Hash (fns_cons c_impl_Mod (fns_nil _))))))) mixed Tryz.func102 (by kernel_rfl) (by kernel_rfl) (fun x => by kernel_rfl)

def s_impl_copyState : Sig := { params := [.val true y63], res := [.val false y3, .row 3 y3 false, .row 3 y3 false, .row 3 y3 false], rgroups := [some 4] }
noncomputable def e_impl_copyState : Entry := ⟨s_impl_copyState, fun a => D.impl_copyState a⟩
noncomputable def v_impl_copyState : Env := { ti := look tab, Γ := fns [(135, [], e_slices_Clone_int)], loop := fun _ => none, cut := fun _ => none, deep := fun _ => false }
theorem c_impl_copyState : Contract Tryz.prog 104 e_impl_copyState.sig e_impl_copyState.F :=
  den_is (E := v_impl_copyState) ⟨tab_ti, tab_eq⟩ (fns_cons c_slices_Clone_int (fns_nil _)) mixed Tryz.func104 (by kernel_rfl) (by kernel_rfl) (fun x => by kernel_rfl)

def s_impl_StepState : Sig := { params := [.val false y38, .val true y63, .val false y3], res := [.val false y3, .row 3 y3 false, .row 3 y3 false, .row 3 y3 false], rgroups := [some 4] }
noncomputable def e_impl_StepState : Entry := ⟨s_impl_StepState, fun a => D.impl_StepState a.1 a.2.1 a.2.2⟩
noncomputable def v_impl_StepState : Env := { ti := look tab, Γ := fns [(104, [], e_impl_copyState), (133, [], e_impl_canStep)], loop := fun _ => none, cut := fun _ => none, deep := fun _ => false }
theorem c_impl_StepState : Contract Tryz.prog 103 e_impl_StepState.sig e_impl_StepState.F :=
  den_is (E := v_impl_StepState) ⟨tab_ti, tab_eq⟩ (fns_cons c_impl_copyState (fns_cons c_impl_canStep (fns_nil _))) mixed Tryz.func103 (by kernel_rfl) (by kernel_rfl) (fun x => by kernel_rfl)

def s_impl_visited : Sig := { params := [.val false y38, .val true y36], res := [.row 76 y76 false, .row 63 y63 false] }
noncomputable def e_impl_visited : Entry := ⟨s_impl_visited, fun a => D.impl_visited a.1 a.2⟩
noncomputable def v_impl_visited : Env := { ti := look tab, Γ := fns [(99, [], e_impl_StartState), (25, [], e_impl_IsScript), (26, [], e_impl_IsVisit), (100, [], e_impl_IsDone), (101, [], e_impl_WantOf), (102, [], e_impl_LiveValue), (103, [], e_impl_StepState)], loop := fun b => match b with | 0 => some [.slot 7 (.own 76 y76 false), .slot 8 (.own 63 y63 false), .box 6 [.int .i64, .ro 3 y3, .ro 3 y3, .ro 3 y3]] | _ => none, cut := fun _ => none, deep := fun _ => false }
theorem c_impl_visited : Contract Tryz.prog 56 e_impl_visited.sig e_impl_visited.F :=
  den_is (E := v_impl_visited) ⟨tab_ti, tab_eq⟩ (fns_cons c_impl_StartState (fns_cons c_impl_IsScript (fns_cons c_impl_IsVisit (fns_cons c_impl_IsDone (fns_cons c_impl_WantOf (fns_cons c_impl_LiveValue (fns_cons c_impl_StepState (fns_nil _)))))))) mixed Tryz.func56 (by kernel_rfl) (by kernel_rfl) (fun x => by kernel_rfl)

def s_impl_last : Sig := { params := [.val false y109], res := [.val false y3, .row 3 y3 false, .row 3 y3 false, .row 3 y3 false], rgroups := [some 4] }
noncomputable def e_impl_last : Entry := ⟨s_impl_last, fun a => D.impl_last a⟩
noncomputable def v_impl_last : Env := { ti := look tab, Γ := fns [(104, [], e_impl_copyState)], loop := fun _ => none, cut := fun _ => none, deep := fun _ => false }
theorem c_impl_last : Contract Tryz.prog 57 e_impl_last.sig e_impl_last.F :=
  den_is (E := v_impl_last) ⟨tab_ti, tab_eq⟩ (fns_cons c_impl_copyState (fns_nil _)) mixed Tryz.func57 (by kernel_rfl) (by kernel_rfl) (fun x => by kernel_rfl)

def s_impl_RecordVisit : Sig := { params := [.val false y38, .val true y36], res := [.row 76 y76 false, .val false y3, .row 3 y3 false, .row 3 y3 false, .row 3 y3 false], rgroups := [none, some 4] }
noncomputable def e_impl_RecordVisit : Entry := ⟨s_impl_RecordVisit, fun a => D.impl_RecordVisit a.1 a.2⟩
noncomputable def v_impl_RecordVisit : Env := { ti := look tab, Γ := fns [(56, [], e_impl_visited), (57, [], e_impl_last)], loop := fun _ => none, cut := fun _ => none, deep := fun _ => false }
theorem c_impl_RecordVisit : Contract Tryz.prog 27 e_impl_RecordVisit.sig e_impl_RecordVisit.F :=
  den_is (E := v_impl_RecordVisit) ⟨tab_ti, tab_eq⟩ (fns_cons c_impl_visited (fns_cons c_impl_last (fns_nil _))) mixed Tryz.func27 (by kernel_rfl) (by kernel_rfl) (fun x => by kernel_rfl)

def s_impl_CapturesOf : Sig := { params := [.val false y38, .val true y36], res := [.row 92 y92 true] }
noncomputable def e_impl_CapturesOf : Entry := ⟨s_impl_CapturesOf, fun a => D.impl_CapturesOf a.1 a.2⟩
noncomputable def v_impl_CapturesOf : Env := { ti := look tab, Γ := fns [(27, [], e_impl_RecordVisit), (84, [], e_impl_FollowAt)], loop := fun b => match b with | 0 => some [.slot 7 (.own 92 y92 true), .slot 20 (.int .i64)] | _ => none, cut := fun _ => none, deep := fun t => Nat.beq t 49 }
theorem c_impl_CapturesOf : Contract Tryz.prog 43 e_impl_CapturesOf.sig e_impl_CapturesOf.F :=
  den_is (E := v_impl_CapturesOf) ⟨tab_ti, tab_eq⟩ (fns_cons c_impl_RecordVisit (fns_cons c_impl_FollowAt (fns_nil _))) mixed Tryz.func43 (by kernel_rfl) (by kernel_rfl) (fun x => by kernel_rfl)

def s_slices_Equal_int : Sig := { params := [.val false y24, .val false y24], res := [.val false y4] }
noncomputable def e_slices_Equal_int : Entry := ⟨s_slices_Equal_int, fun a => D.slices_Equal_int a.1 a.2⟩
noncomputable def v_slices_Equal_int : Env := { ti := look tab, Γ := fns [], loop := fun b => match b with | 0 => some [.slot 13 (.int .i64)] | _ => none, cut := fun _ => none, deep := fun _ => false }
theorem c_slices_Equal_int : Contract Tryz.prog 61 e_slices_Equal_int.sig e_slices_Equal_int.F :=
  den_is (E := v_slices_Equal_int) ⟨tab_ti, tab_eq⟩ (fns_nil _) mixed Tryz.func61 (by kernel_rfl) (by kernel_rfl) (fun x => by kernel_rfl)

def s_impl_EqualResources : Sig := { params := [.val true y90, .val true y90], res := [.val false y4] }
noncomputable def e_impl_EqualResources : Entry := ⟨s_impl_EqualResources, fun a => D.impl_EqualResources a.1 a.2⟩
noncomputable def v_impl_EqualResources : Env := { ti := look tab, Γ := fns [(61, [], e_slices_Equal_int)], loop := fun _ => none, cut := fun _ => none, deep := fun _ => false }
theorem c_impl_EqualResources : Contract Tryz.prog 126 e_impl_EqualResources.sig e_impl_EqualResources.F :=
  den_is (E := v_impl_EqualResources) ⟨tab_ti, tab_eq⟩ (fns_cons c_slices_Equal_int (fns_nil _)) mixed Tryz.func126 (by kernel_rfl) (by kernel_rfl) (fun x => by kernel_rfl)

def s_impl_sameCapture : Sig := { params := [.val true y92, .val true y92], res := [.val false y4] }
noncomputable def e_impl_sameCapture : Entry := ⟨s_impl_sameCapture, fun a => D.impl_sameCapture a.1 a.2⟩
noncomputable def v_impl_sameCapture : Env := { ti := look tab, Γ := fns [(126, [], e_impl_EqualResources)], loop := fun _ => none, cut := fun _ => none, deep := fun _ => false }
theorem c_impl_sameCapture : Contract Tryz.prog 87 e_impl_sameCapture.sig e_impl_sameCapture.F :=
  den_is (E := v_impl_sameCapture) ⟨tab_ti, tab_eq⟩ (fns_cons c_impl_EqualResources (fns_nil _)) mixed Tryz.func87 (by kernel_rfl) (by kernel_rfl) (fun x => by kernel_rfl)

def s_impl_hasCapture_1 : Sig := { params := [.val true y92, .cptr y92], res := [.val false y4] }
noncomputable def e_impl_hasCapture_1 : Entry := ⟨s_impl_hasCapture_1, fun a => D.impl_hasCapture_1 a.1 a.2⟩
noncomputable def v_impl_hasCapture_1 : Env := { ti := look tab, Γ := fns [(87, [], e_impl_sameCapture)], loop := fun _ => none, cut := fun _ => none, deep := fun _ => false }
theorem c_impl_hasCapture_1 : Contract Tryz.prog 86 e_impl_hasCapture_1.sig e_impl_hasCapture_1.F :=
  den_is (E := v_impl_hasCapture_1) ⟨tab_ti, tab_eq⟩ (fns_cons c_impl_sameCapture (fns_nil _)) mixed Tryz.func86 (by kernel_rfl) (by kernel_rfl) (fun x => by kernel_rfl)

def s_slices_IndexFunc_Capture_impl_hasCapture_1 : Sig := { params := [.val false y32, .fn 86 [y92]], res := [.val false y3] }
noncomputable def e_slices_IndexFunc_Capture_impl_hasCapture_1 : Entry := ⟨s_slices_IndexFunc_Capture_impl_hasCapture_1, fun a => D.slices_IndexFunc_Capture_impl_hasCapture_1 a.1 a.2⟩
noncomputable def v_slices_IndexFunc_Capture_impl_hasCapture_1 : Env := { ti := look tab, Γ := fns [(86, [], e_impl_hasCapture_1)], loop := fun b => match b with | 0 => some [.slot 8 (.int .i64)] | _ => none, cut := fun _ => none, deep := fun _ => false }
theorem c_slices_IndexFunc_Capture_impl_hasCapture_1 : Contract Tryz.prog 125 e_slices_IndexFunc_Capture_impl_hasCapture_1.sig e_slices_IndexFunc_Capture_impl_hasCapture_1.F :=
  den_is (E := v_slices_IndexFunc_Capture_impl_hasCapture_1) ⟨tab_ti, tab_eq⟩ (fns_cons c_impl_hasCapture_1 (fns_nil _)) mixed Tryz.func125 (by kernel_rfl) (by kernel_rfl) (fun x => by kernel_rfl)

def s_slices_ContainsFunc_Capture_impl_hasCapture_1 : Sig := { params := [.val false y32, .fn 86 [y92]], res := [.val false y4] }
noncomputable def e_slices_ContainsFunc_Capture_impl_hasCapture_1 : Entry := ⟨s_slices_ContainsFunc_Capture_impl_hasCapture_1, fun a => D.slices_ContainsFunc_Capture_impl_hasCapture_1 a.1 a.2⟩
noncomputable def v_slices_ContainsFunc_Capture_impl_hasCapture_1 : Env := { ti := look tab, Γ := fns [(125, [86], e_slices_IndexFunc_Capture_impl_hasCapture_1)], loop := fun _ => none, cut := fun _ => none, deep := fun _ => false }
theorem c_slices_ContainsFunc_Capture_impl_hasCapture_1 : Contract Tryz.prog 85 e_slices_ContainsFunc_Capture_impl_hasCapture_1.sig e_slices_ContainsFunc_Capture_impl_hasCapture_1.F :=
  den_is (E := v_slices_ContainsFunc_Capture_impl_hasCapture_1) ⟨tab_ti, tab_eq⟩ (fns_cons c_slices_IndexFunc_Capture_impl_hasCapture_1 (fns_nil _)) mixed Tryz.func85 (by kernel_rfl) (by kernel_rfl) (fun x => by kernel_rfl)

def s_impl_hasCapture : Sig := { params := [.val false y32, .val true y92], res := [.val false y4] }
noncomputable def e_impl_hasCapture : Entry := ⟨s_impl_hasCapture, fun a => D.impl_hasCapture a.1 a.2⟩
noncomputable def v_impl_hasCapture : Env := { ti := look tab, Γ := fns [(85, [86], e_slices_ContainsFunc_Capture_impl_hasCapture_1)], loop := fun _ => none, cut := fun _ => none, deep := fun _ => false }
theorem c_impl_hasCapture : Contract Tryz.prog 44 e_impl_hasCapture.sig e_impl_hasCapture.F :=
  den_is (E := v_impl_hasCapture) ⟨tab_ti, tab_eq⟩ (fns_cons c_slices_ContainsFunc_Capture_impl_hasCapture_1 (fns_nil _)) mixed Tryz.func44 (by kernel_rfl) (by kernel_rfl) (fun x => by kernel_rfl)

def s_impl_CoverageOf : Sig := { params := [.val false y32, .val false y47, .val false y38], res := [.val false y3] }
noncomputable def e_impl_CoverageOf : Entry := ⟨s_impl_CoverageOf, fun a => D.impl_CoverageOf a.1 a.2.1 a.2.2⟩
noncomputable def v_impl_CoverageOf : Env := { ti := look tab, Γ := fns [(43, [], e_impl_CapturesOf), (44, [], e_impl_hasCapture)], loop := fun b => match b with | 0 => some [.slot 7 (.int .i64), .slot 14 (.int .i64)] | 2 => some [.slot 7 (.int .i64), .slot 22 (.int .i64)] | _ => none, cut := fun _ => none, deep := fun _ => false }
theorem c_impl_CoverageOf : Contract Tryz.prog 20 e_impl_CoverageOf.sig e_impl_CoverageOf.F :=
  den_is (E := v_impl_CoverageOf) ⟨tab_ti, tab_eq⟩ (fns_cons c_impl_CapturesOf (fns_cons c_impl_hasCapture (fns_nil _))) mixed Tryz.func20 (by kernel_rfl) (by kernel_rfl) (fun x => by kernel_rfl)

def s_laws_eqAddress : Sig := { params := [.val true y74, .val true y74], res := [.val false y4] }
noncomputable def e_laws_eqAddress : Entry := ⟨s_laws_eqAddress, fun a => D.laws_eqAddress a.1 a.2⟩
noncomputable def v_laws_eqAddress : Env := { ti := look tab, Γ := fns [], loop := fun _ => none, cut := fun _ => none, deep := fun _ => false }
theorem c_laws_eqAddress : Contract Tryz.prog 88 e_laws_eqAddress.sig e_laws_eqAddress.F :=
  den_is (E := v_laws_eqAddress) ⟨tab_ti, tab_eq⟩ (fns_nil _) mixed Tryz.func88 (by kernel_rfl) (by kernel_rfl) (fun x => by kernel_rfl)

def s_laws_eqIntS : Sig := { params := [.val false y24, .val false y24], res := [.val false y4] }
noncomputable def e_laws_eqIntS : Entry := ⟨s_laws_eqIntS, fun a => D.laws_eqIntS a.1 a.2⟩
noncomputable def v_laws_eqIntS : Env := { ti := look tab, Γ := fns [], loop := fun b => match b with | 0 => some [.slot 5 (.int .i64)] | _ => none, cut := fun _ => none, deep := fun _ => false }
theorem c_laws_eqIntS : Contract Tryz.prog 47 e_laws_eqIntS.sig e_laws_eqIntS.F :=
  den_is (E := v_laws_eqIntS) ⟨tab_ti, tab_eq⟩ (fns_nil _) mixed Tryz.func47 (by kernel_rfl) (by kernel_rfl) (fun x => by kernel_rfl)

def s_laws_eqResource : Sig := { params := [.val true y90, .val true y90], res := [.val false y4] }
noncomputable def e_laws_eqResource : Entry := ⟨s_laws_eqResource, fun a => D.laws_eqResource a.1 a.2⟩
noncomputable def v_laws_eqResource : Env := { ti := look tab, Γ := fns [(47, [], e_laws_eqIntS), (88, [], e_laws_eqAddress)], loop := fun _ => none, cut := fun _ => none, deep := fun _ => false }
theorem c_laws_eqResource : Contract Tryz.prog 89 e_laws_eqResource.sig e_laws_eqResource.F :=
  den_is (E := v_laws_eqResource) ⟨tab_ti, tab_eq⟩ (fns_cons c_laws_eqIntS (fns_cons c_laws_eqAddress (fns_nil _))) mixed Tryz.func89 (by kernel_rfl) (by kernel_rfl) (fun x => by kernel_rfl)

def s_laws_eqCapture : Sig := { params := [.val true y92, .val true y92], res := [.val false y4] }
noncomputable def e_laws_eqCapture : Entry := ⟨s_laws_eqCapture, fun a => D.laws_eqCapture a.1 a.2⟩
noncomputable def v_laws_eqCapture : Env := { ti := look tab, Γ := fns [(88, [], e_laws_eqAddress), (89, [], e_laws_eqResource)], loop := fun _ => none, cut := fun _ => none, deep := fun _ => false }
theorem c_laws_eqCapture : Contract Tryz.prog 45 e_laws_eqCapture.sig e_laws_eqCapture.F :=
  den_is (E := v_laws_eqCapture) ⟨tab_ti, tab_eq⟩ (fns_cons c_laws_eqAddress (fns_cons c_laws_eqResource (fns_nil _))) mixed Tryz.func45 (by kernel_rfl) (by kernel_rfl) (fun x => by kernel_rfl)

def s_laws_eqCaptureS : Sig := { params := [.val false y32, .val false y32], res := [.val false y4] }
noncomputable def e_laws_eqCaptureS : Entry := ⟨s_laws_eqCaptureS, fun a => D.laws_eqCaptureS a.1 a.2⟩
noncomputable def v_laws_eqCaptureS : Env := { ti := look tab, Γ := fns [(45, [], e_laws_eqCapture)], loop := fun b => match b with | 0 => some [.slot 5 (.int .i64)] | _ => none, cut := fun _ => none, deep := fun _ => false }
theorem c_laws_eqCaptureS : Contract Tryz.prog 14 e_laws_eqCaptureS.sig e_laws_eqCaptureS.F :=
  den_is (E := v_laws_eqCaptureS) ⟨tab_ti, tab_eq⟩ (fns_cons c_laws_eqCapture (fns_nil _)) mixed Tryz.func14 (by kernel_rfl) (by kernel_rfl) (fun x => by kernel_rfl)

def s_laws_eqVersion : Sig := { params := [.val true y138, .val true y138], res := [.val false y4] }
noncomputable def e_laws_eqVersion : Entry := ⟨s_laws_eqVersion, fun a => D.laws_eqVersion a.1 a.2⟩
noncomputable def v_laws_eqVersion : Env := { ti := look tab, Γ := fns [(88, [], e_laws_eqAddress), (89, [], e_laws_eqResource)], loop := fun _ => none, cut := fun _ => none, deep := fun _ => false }
theorem c_laws_eqVersion : Contract Tryz.prog 90 e_laws_eqVersion.sig e_laws_eqVersion.F :=
  den_is (E := v_laws_eqVersion) ⟨tab_ti, tab_eq⟩ (fns_cons c_laws_eqAddress (fns_cons c_laws_eqResource (fns_nil _))) mixed Tryz.func90 (by kernel_rfl) (by kernel_rfl) (fun x => by kernel_rfl)

def s_laws_eqVersionS : Sig := { params := [.val false y34, .val false y34], res := [.val false y4] }
noncomputable def e_laws_eqVersionS : Entry := ⟨s_laws_eqVersionS, fun a => D.laws_eqVersionS a.1 a.2⟩
noncomputable def v_laws_eqVersionS : Env := { ti := look tab, Γ := fns [(90, [], e_laws_eqVersion)], loop := fun b => match b with | 0 => some [.slot 5 (.int .i64)] | _ => none, cut := fun _ => none, deep := fun _ => false }
theorem c_laws_eqVersionS : Contract Tryz.prog 46 e_laws_eqVersionS.sig e_laws_eqVersionS.F :=
  den_is (E := v_laws_eqVersionS) ⟨tab_ti, tab_eq⟩ (fns_cons c_laws_eqVersion (fns_nil _)) mixed Tryz.func46 (by kernel_rfl) (by kernel_rfl) (fun x => by kernel_rfl)

def s_laws_eqVisit : Sig := { params := [.val true y36, .val true y36], res := [.val false y4] }
noncomputable def e_laws_eqVisit : Entry := ⟨s_laws_eqVisit, fun a => D.laws_eqVisit a.1 a.2⟩
noncomputable def v_laws_eqVisit : Env := { ti := look tab, Γ := fns [(46, [], e_laws_eqVersionS), (47, [], e_laws_eqIntS)], loop := fun _ => none, cut := fun _ => none, deep := fun _ => false }
theorem c_laws_eqVisit : Contract Tryz.prog 15 e_laws_eqVisit.sig e_laws_eqVisit.F :=
  den_is (E := v_laws_eqVisit) ⟨tab_ti, tab_eq⟩ (fns_cons c_laws_eqVersionS (fns_cons c_laws_eqIntS (fns_nil _))) mixed Tryz.func15 (by kernel_rfl) (by kernel_rfl) (fun x => by kernel_rfl)

def s_laws_eqVisitS : Sig := { params := [.val false y47, .val false y47], res := [.val false y4] }
noncomputable def e_laws_eqVisitS : Entry := ⟨s_laws_eqVisitS, fun a => D.laws_eqVisitS a.1 a.2⟩
noncomputable def v_laws_eqVisitS : Env := { ti := look tab, Γ := fns [(15, [], e_laws_eqVisit)], loop := fun b => match b with | 0 => some [.slot 5 (.int .i64)] | _ => none, cut := fun _ => none, deep := fun _ => false }
theorem c_laws_eqVisitS : Contract Tryz.prog 21 e_laws_eqVisitS.sig e_laws_eqVisitS.F :=
  den_is (E := v_laws_eqVisitS) ⟨tab_ti, tab_eq⟩ (fns_cons c_laws_eqVisit (fns_nil _)) mixed Tryz.func21 (by kernel_rfl) (by kernel_rfl) (fun x => by kernel_rfl)

def s_laws_eqOp : Sig := { params := [.val true y97, .val true y97], res := [.val false y4] }
noncomputable def e_laws_eqOp : Entry := ⟨s_laws_eqOp, fun a => D.laws_eqOp a.1 a.2⟩
noncomputable def v_laws_eqOp : Env := { ti := look tab, Γ := fns [], loop := fun _ => none, cut := fun _ => none, deep := fun _ => false }
theorem c_laws_eqOp : Contract Tryz.prog 48 e_laws_eqOp.sig e_laws_eqOp.F :=
  den_is (E := v_laws_eqOp) ⟨tab_ti, tab_eq⟩ (fns_nil _) mixed Tryz.func48 (by kernel_rfl) (by kernel_rfl) (fun x => by kernel_rfl)

def s_laws_eqOpS : Sig := { params := [.val false y38, .val false y38], res := [.val false y4] }
noncomputable def e_laws_eqOpS : Entry := ⟨s_laws_eqOpS, fun a => D.laws_eqOpS a.1 a.2⟩
noncomputable def v_laws_eqOpS : Env := { ti := look tab, Γ := fns [(48, [], e_laws_eqOp)], loop := fun b => match b with | 0 => some [.slot 5 (.int .i64)] | _ => none, cut := fun _ => none, deep := fun _ => false }
theorem c_laws_eqOpS : Contract Tryz.prog 16 e_laws_eqOpS.sig e_laws_eqOpS.F :=
  den_is (E := v_laws_eqOpS) ⟨tab_ti, tab_eq⟩ (fns_cons c_laws_eqOp (fns_nil _)) mixed Tryz.func16 (by kernel_rfl) (by kernel_rfl) (fun x => by kernel_rfl)

def s_laws_FnExactCoverageOf : Sig := { params := [.val false y22, .val false y44, .val false y27], res := [.val false y4] }
noncomputable def e_laws_FnExactCoverageOf : Entry := ⟨s_laws_FnExactCoverageOf, fun a => D.laws_FnExactCoverageOf a.1 a.2.1 a.2.2⟩
noncomputable def v_laws_FnExactCoverageOf : Env := { ti := look tab, Γ := fns [(6, [], e_laws_szCaptureS), (17, [], e_laws_szVisitS), (8, [], e_laws_szOpS), (10, [], e_laws_toCaptureS), (19, [], e_laws_toVisitS), (12, [], e_laws_toOpS), (18, [], e_spec_CoverageOf), (20, [], e_impl_CoverageOf), (14, [], e_laws_eqCaptureS), (21, [], e_laws_eqVisitS), (16, [], e_laws_eqOpS)], loop := fun _ => none, cut := fun _ => none, deep := fun _ => false }
theorem c_laws_FnExactCoverageOf : Contract Tryz.prog 4 e_laws_FnExactCoverageOf.sig e_laws_FnExactCoverageOf.F :=
  den_is (E := v_laws_FnExactCoverageOf) ⟨tab_ti, tab_eq⟩ (fns_cons c_laws_szCaptureS (fns_cons c_laws_szVisitS (fns_cons c_laws_szOpS (fns_cons c_laws_toCaptureS (fns_cons c_laws_toVisitS (fns_cons c_laws_toOpS (fns_cons c_spec_CoverageOf (fns_cons c_impl_CoverageOf (fns_cons c_laws_eqCaptureS (fns_cons c_laws_eqVisitS (fns_cons c_laws_eqOpS (fns_nil _)))))))))))) mixed Tryz.func4 (by kernel_rfl) (by kernel_rfl) (fun x => by kernel_rfl)

theorem law_true (a : Tup (s_laws_FnExactCoverageOf.params.map PTy.den)) (hok : argsOk Tryz.prog s_laws_FnExactCoverageOf.params a) : D.laws_FnExactCoverageOf a.1 a.2.1 a.2.2 = some true := D.FnExactCoverageOf_true a.1 a.2.1 a.2.2 (Ty.ok_bd (P := Tryz.prog) (t := y22) (by kernel_rfl) hok.1) (Ty.ok_bd (P := Tryz.prog) (t := y44) (by kernel_rfl) hok.2.1) (Ty.ok_bd (P := Tryz.prog) (t := y27) (by kernel_rfl) hok.2.2.1)
theorem lifted (os : Os) (started : os.Started) (H : Type) (enc : TypeId × Value → H) :
    ReturnsInHanded {} Tryz.checked os 4 .any (Rows.fnExactCoverageOfSpec.pre6 enc Tryz.prog Tryz.f4 Rows.fnExactCoverageOfRow.domain false) (Rows.fnExactCoverageOfSpec.post enc Tryz.prog Tryz.f4 false true false false) := by
  refine returnsInHanded_of_change_sized (C := Tryz.checked) (by kernel_rfl) started (by kernel_rfl) Tryz.func4
    (ChangeSpec.witness6 (enc := enc) (C := Tryz.checked) false ⟨#[], #[.slice none 0 0, .slice none 0 0, .slice none 0 0], []⟩ 8 (by kernel_rfl) (by kernel_rfl) (by kernel_rfl) (by kernel_rfl)) ?_
  intro W base args ds gs before hval hW hcnd hsz _
  exact law_row (C := Tryz.checked) rfl c_laws_FnExactCoverageOf (N := 8) (by kernel_rfl) (tb := 4) (by kernel_rfl) (by kernel_rfl) (by kernel_rfl) (by kernel_rfl) rfl
    (fun ds h => by
      have h : ds.length = 3 := h
      match ds, h with
      | [d0, d1, d2], _ => rfl)
    bulky_sizeOf (small := fun _ => True) (fun a ds hok _ _ => ⟨_, law_true a hok, rfl⟩) hval hW hsz trivial

theorem over : Rows.fnExactCoverageOfRow.holds Tryz.pinned (OpenSpec.ofChange Rows.fnExactCoverageOfSpec) :=
  OpenClaim.holds_of_wide 4 Tryz.f4 rfl rfl rfl rfl rfl rfl rfl ⟨rfl, rfl, rfl, rfl, rfl⟩ rfl rfl rfl rfl rfl (by kernel_rfl) Tryz.func4 (by kernel_rfl)
    (of_decide_eq_true (by kernel_rfl)) (by unfold Func.isWrapper; first | (rw [if_pos (by decide +kernel)]; kernel_rfl) | (rw [if_neg (by decide +kernel)]; exact ⟨rfl, rfl⟩))
    (fun os started H enc _ => lifted os started H enc)
end Go.Proofs.YtombapmoifkmlaaGreat.SxFnExactCoverageOf
namespace Go.Proofs.YtombapmoifkmlaaGreat
theorem fnExactCoverageOf_holds : Rows.FnExactCoverageOfSaid := SxFnExactCoverageOf.over
end Go.Proofs.YtombapmoifkmlaaGreat
