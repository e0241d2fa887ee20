/- FnExactHoldersOf returns true for every input, and each input reads as it did. No condition. -/
import Derived.Test.YthmpjemfgejccaaRows
import Derived.Test.YthmpjemfgejccaaPuFnExactHoldersOf
import Derived.WalkKit
import Derived.ProofKit
import Derived.ShutString
import Derived.SizedLaws
set_option linter.unusedVariables false
set_option maxRecDepth 100000
set_option maxHeartbeats 4000000
namespace Go.Proofs.Ythmpjemfgejccaa.SxFnExactHoldersOf
open Go Go.Sh Go.RowKit
def y3 : Ty := .int .i64
def y4 : Ty := .bool
def y24 : Ty := .slice 3 y3
def y146 : Ty := .pair y3 (.pair y24 (.pair y4 y4))
def y22 : Ty := .slice 146 y146
def y147 : Ty := .pair y3 (.pair y24 (.pair y4 y4))
def y26 : Ty := .slice 147 y147
def tab : List (TypeId × TI) := [(3, { size := 1, bytes := 8, agg := false, ty := some y3 }),
  (4, { size := 1, bytes := 1, agg := false, ty := some y4 }),
  (24, { size := 1, bytes := 24, agg := false, ty := some y24, elem := some 3 }),
  (146, { size := 4, bytes := 40, agg := true, ty := some y146, fields := [(0, 3), (1, 24), (2, 4), (3, 4)] }),
  (22, { size := 1, bytes := 24, agg := false, ty := some y22, elem := some 146 }),
  (147, { size := 4, bytes := 40, agg := true, ty := some y147, fields := [(0, 3), (1, 24), (2, 4), (3, 4)] }),
  (26, { size := 1, bytes := 24, agg := false, ty := some y26, elem := some 147 })]
def look : List (TypeId × TI) → TypeId → Option TI
  | [], _ => none
  | (k, i) :: r, t => if Nat.beq t k = true then some i else look r t
theorem look_ok {P : Program} : ∀ {l : List (TypeId × TI)}, (l.all fun p => tiOk P p.1 p.2) = true → ∀ t i, look l t = some i → tiOk P t i = true
  | [], _, t, i, h => by simp [look] at h
  | (k, j) :: r, h0, t, i, h => by
    simp only [List.all_cons, Bool.and_eq_true] at h0
    simp only [look] at h
    split at h
    · rename_i hk
      simp only [Option.some.injEq] at h
      have := Nat.eq_of_beq_eq_true hk
      subst this; subst h; exact h0.1
    · exact look_ok h0.2 t i h
theorem look_eq {P : Program} : ∀ {l : List (TypeId × TI)}, (l.all fun p => !p.2.eq || eqTop P p.1 p.2.ty) = true → ∀ t i, look l t = some i → i.eq = true → ∀ ty, i.ty = some ty → EqLaw P t ty.zero
  | [], _, t, i, h => by simp [look] at h
  | (k, j) :: r, h0, t, i, h => by
    simp only [List.all_cons, Bool.and_eq_true, Bool.or_eq_true, Bool.not_eq_true'] at h0
    simp only [look] at h
    split at h
    · rename_i hk
      simp only [Option.some.injEq] at h
      have := Nat.eq_of_beq_eq_true hk
      subst this; subst h
      intro he
      exact eqLaw_of (h0.1.resolve_left (by simp [he]))
    · exact look_eq h0.2 t i h
def same : List Nat → List Nat → Bool
  | [], [] => true
  | a :: x, b :: y => Nat.beq a b && same x y
  | _, _ => false
theorem same_eq : ∀ {x y : List Nat}, same x y = true → x = y
  | [], [], _ => rfl
  | a :: x, b :: y, h => by
    simp only [same, Bool.and_eq_true] at h
    rw [Nat.eq_of_beq_eq_true h.1, same_eq h.2]
  | [], _ :: _, h => by simp [same] at h
  | _ :: _, [], h => by simp [same] at h
def fns : List (FuncId × List FuncId × Entry) → FuncId → List FuncId → Option Entry
  | [], _, _ => none
  | (k, c, e) :: r, f, fs => if (Nat.beq f k && same fs c) = true then some e else fns r f fs
theorem fns_nil (P : Program) : ∀ f fs en, fns [] f fs = some en → Contract P f en.sig en.F := fun f fs en h => by simp [fns] at h
theorem fns_cons {P : Program} {k : FuncId} {c : List FuncId} {e : Entry} {r : List (FuncId × List FuncId × Entry)} (hk : Contract P k e.sig e.F) (hr : ∀ f fs en, fns r f fs = some en → Contract P f en.sig en.F) : ∀ f fs en, fns ((k, c, e) :: r) f fs = some en → Contract P f en.sig en.F := fun f fs en h => by
  simp only [fns] at h
  split at h
  · rename_i hf
    simp only [Bool.and_eq_true] at hf
    simp only [Option.some.injEq] at h
    have := Nat.eq_of_beq_eq_true hf.1
    subst this; subst h; exact hk
  · exact hr f fs en h

theorem tab_ti : ∀ t i, look tab t = some i → tiOk Try.prog t i = true := look_ok (by kernel_rfl)
theorem tab_eq : ∀ t i, look tab t = some i → i.eq = true → ∀ ty, i.ty = some ty → EqLaw Try.prog t ty.zero := look_eq (by kernel_rfl)
theorem mixed : Try.prog.follows .mixedOrders = true := by kernel_rfl
def s_laws_szIntS : Sig := { params := [.val false y24, .val false y3], res := [.val false y3] }
noncomputable def e_laws_szIntS : Entry := ⟨s_laws_szIntS, fun a => D.laws_szIntS a.1 a.2⟩
noncomputable def v_laws_szIntS : Env := { ti := look tab, Γ := fns [], loop := fun _ => none, cut := fun _ => none, deep := fun _ => false }
theorem c_laws_szIntS : Contract Try.prog 103 e_laws_szIntS.sig e_laws_szIntS.F :=
  den_is (E := v_laws_szIntS) ⟨tab_ti, tab_eq⟩ (fns_nil _) mixed Try.func103 (by kernel_rfl) (by kernel_rfl) (fun x => by kernel_rfl)

def s_laws_szLibrary : Sig := { params := [.val true y146, .val false y3], res := [.val false y3] }
noncomputable def e_laws_szLibrary : Entry := ⟨s_laws_szLibrary, fun a => D.laws_szLibrary a.1 a.2⟩
noncomputable def v_laws_szLibrary : Env := { ti := look tab, Γ := fns [(103, [], e_laws_szIntS)], loop := fun _ => none, cut := fun _ => none, deep := fun _ => false }
theorem c_laws_szLibrary : Contract Try.prog 98 e_laws_szLibrary.sig e_laws_szLibrary.F :=
  den_is (E := v_laws_szLibrary) ⟨tab_ti, tab_eq⟩ (fns_cons c_laws_szIntS (fns_nil _)) mixed Try.func98 (by kernel_rfl) (by kernel_rfl) (fun x => by kernel_rfl)

def s_laws_szLibraryS : Sig := { params := [.val false y22, .val false y3], res := [.val false y3] }
noncomputable def e_laws_szLibraryS : Entry := ⟨s_laws_szLibraryS, fun a => D.laws_szLibraryS a.1 a.2⟩
noncomputable def v_laws_szLibraryS : Env := { ti := look tab, Γ := fns [(98, [], e_laws_szLibrary)], loop := fun b => match b with | 0 => some [.slot 1 (.int .i64), .slot 5 (.int .i64)] | _ => none, cut := fun _ => none, deep := fun _ => false }
theorem c_laws_szLibraryS : Contract Try.prog 13 e_laws_szLibraryS.sig e_laws_szLibraryS.F :=
  den_is (E := v_laws_szLibraryS) ⟨tab_ti, tab_eq⟩ (fns_cons c_laws_szLibrary (fns_nil _)) mixed Try.func13 (by kernel_rfl) (by kernel_rfl) (fun x => by kernel_rfl)

def s_laws_toIntS : Sig := { params := [.val false y24], res := [.row 3 y3 false] }
noncomputable def e_laws_toIntS : Entry := ⟨s_laws_toIntS, fun a => D.laws_toIntS a⟩
noncomputable def v_laws_toIntS : Env := { ti := look tab, Γ := fns [], loop := fun b => match b with | 0 => some [.slot 4 (.int .i64), .vec 3 3 y3 false] | _ => none, cut := fun _ => none, deep := fun _ => false }
theorem c_laws_toIntS : Contract Try.prog 111 e_laws_toIntS.sig e_laws_toIntS.F :=
  den_is (E := v_laws_toIntS) ⟨tab_ti, tab_eq⟩ (fns_nil _) mixed Try.func111 (by kernel_rfl) (by kernel_rfl) (fun x => by kernel_rfl)

def s_laws_toLibrary : Sig := { params := [.val true y146], res := [.val false y3, .row 3 y3 false, .val false y4, .val false y4], rgroups := [some 4] }
noncomputable def e_laws_toLibrary : Entry := ⟨s_laws_toLibrary, fun a => D.laws_toLibrary a⟩
noncomputable def v_laws_toLibrary : Env := { ti := look tab, Γ := fns [(111, [], e_laws_toIntS)], loop := fun _ => none, cut := fun _ => none, deep := fun _ => false }
theorem c_laws_toLibrary : Contract Try.prog 100 e_laws_toLibrary.sig e_laws_toLibrary.F :=
  den_is (E := v_laws_toLibrary) ⟨tab_ti, tab_eq⟩ (fns_cons c_laws_toIntS (fns_nil _)) mixed Try.func100 (by kernel_rfl) (by kernel_rfl) (fun x => by kernel_rfl)

def s_laws_toLibraryS : Sig := { params := [.val false y22], res := [.row 147 y147 true] }
noncomputable def e_laws_toLibraryS : Entry := ⟨s_laws_toLibraryS, fun a => D.laws_toLibraryS a⟩
noncomputable def v_laws_toLibraryS : Env := { ti := look tab, Γ := fns [(100, [], e_laws_toLibrary)], loop := fun b => match b with | 0 => some [.slot 4 (.int .i64), .vec 3 147 y147 true] | _ => none, cut := fun _ => none, deep := fun t => Nat.beq t 7 }
theorem c_laws_toLibraryS : Contract Try.prog 15 e_laws_toLibraryS.sig e_laws_toLibraryS.F :=
  den_is (E := v_laws_toLibraryS) ⟨tab_ti, tab_eq⟩ (fns_cons c_laws_toLibrary (fns_nil _)) mixed Try.func15 (by kernel_rfl) (by kernel_rfl) (fun x => by kernel_rfl)

def s_spec_l28Has : Sig := { params := [.val false y24, .val false y3], res := [.val false y4] }
noncomputable def e_spec_l28Has : Entry := ⟨s_spec_l28Has, fun a => D.spec_l28Has a.1 a.2⟩
noncomputable def v_spec_l28Has : Env := { ti := look tab, Γ := fns [], loop := fun b => match b with | 0 => some [.slot 5 (.int .i64)] | _ => none, cut := fun _ => none, deep := fun _ => false }
theorem c_spec_l28Has : Contract Try.prog 99 e_spec_l28Has.sig e_spec_l28Has.F :=
  den_is (E := v_spec_l28Has) ⟨tab_ti, tab_eq⟩ (fns_nil _) mixed Try.func99 (by kernel_rfl) (by kernel_rfl) (fun x => by kernel_rfl)

def s_spec_HoldersOf : Sig := { params := [.val false y26, .val false y3], res := [.row 3 y3 false] }
noncomputable def e_spec_HoldersOf : Entry := ⟨s_spec_HoldersOf, fun a => D.spec_HoldersOf a.1 a.2⟩
noncomputable def v_spec_HoldersOf : Env := { ti := look tab, Γ := fns [(99, [], e_spec_l28Has)], loop := fun b => match b with | 0 => some [.slot 5 (.own 3 y3 false), .slot 6 (.int .i64)] | _ => none, cut := fun _ => none, deep := fun _ => false }
theorem c_spec_HoldersOf : Contract Try.prog 14 e_spec_HoldersOf.sig e_spec_HoldersOf.F :=
  den_is (E := v_spec_HoldersOf) ⟨tab_ti, tab_eq⟩ (fns_cons c_spec_l28Has (fns_nil _)) mixed Try.func14 (by kernel_rfl) (by kernel_rfl) (fun x => by kernel_rfl)

def s_slices_Index_int : Sig := { params := [.val false y24, .val false y3], res := [.val false y3] }
noncomputable def e_slices_Index_int : Entry := ⟨s_slices_Index_int, fun a => D.slices_Index_int a.1 a.2⟩
noncomputable def v_slices_Index_int : Env := { ti := look tab, Γ := fns [], loop := fun b => match b with | 0 => some [.slot 8 (.int .i64)] | _ => none, cut := fun _ => none, deep := fun _ => false }
theorem c_slices_Index_int : Contract Try.prog 181 e_slices_Index_int.sig e_slices_Index_int.F :=
  den_is (E := v_slices_Index_int) ⟨tab_ti, tab_eq⟩ (fns_nil _) mixed Try.func181 (by kernel_rfl) (by kernel_rfl) (fun x => by kernel_rfl)

def s_slices_Contains_int : Sig := { params := [.val false y24, .val false y3], res := [.val false y4] }
noncomputable def e_slices_Contains_int : Entry := ⟨s_slices_Contains_int, fun a => D.slices_Contains_int a.1 a.2⟩
noncomputable def v_slices_Contains_int : Env := { ti := look tab, Γ := fns [(181, [], e_slices_Index_int)], loop := fun _ => none, cut := fun _ => none, deep := fun _ => false }
theorem c_slices_Contains_int : Contract Try.prog 101 e_slices_Contains_int.sig e_slices_Contains_int.F :=
  den_is (E := v_slices_Contains_int) ⟨tab_ti, tab_eq⟩ (fns_cons c_slices_Index_int (fns_nil _)) mixed Try.func101 (by kernel_rfl) (by kernel_rfl) (fun x => by kernel_rfl)

def s_impl_HoldersOf : Sig := { params := [.val false y26, .val false y3], res := [.row 3 y3 false] }
noncomputable def e_impl_HoldersOf : Entry := ⟨s_impl_HoldersOf, fun a => D.impl_HoldersOf a.1 a.2⟩
noncomputable def v_impl_HoldersOf : Env := { ti := look tab, Γ := fns [(101, [], e_slices_Contains_int)], loop := fun b => match b with | 0 => some [.slot 5 (.own 3 y3 false), .slot 10 (.int .i64)] | _ => none, cut := fun _ => none, deep := fun _ => false }
theorem c_impl_HoldersOf : Contract Try.prog 16 e_impl_HoldersOf.sig e_impl_HoldersOf.F :=
  den_is (E := v_impl_HoldersOf) ⟨tab_ti, tab_eq⟩ (fns_cons c_slices_Contains_int (fns_nil _)) mixed Try.func16 (by kernel_rfl) (by kernel_rfl) (fun x => by kernel_rfl)

def s_laws_eqIntS : Sig := { params := [.val false y24, .val false y24], res := [.val false y4] }
noncomputable def e_laws_eqIntS : Entry := ⟨s_laws_eqIntS, fun a => D.laws_eqIntS a.1 a.2⟩
noncomputable def v_laws_eqIntS : Env := { ti := look tab, Γ := fns [], loop := fun b => match b with | 0 => some [.slot 5 (.int .i64)] | _ => none, cut := fun _ => none, deep := fun _ => false }
theorem c_laws_eqIntS : Contract Try.prog 17 e_laws_eqIntS.sig e_laws_eqIntS.F :=
  den_is (E := v_laws_eqIntS) ⟨tab_ti, tab_eq⟩ (fns_nil _) mixed Try.func17 (by kernel_rfl) (by kernel_rfl) (fun x => by kernel_rfl)

def s_laws_eqLibrary : Sig := { params := [.val true y147, .val true y147], res := [.val false y4] }
noncomputable def e_laws_eqLibrary : Entry := ⟨s_laws_eqLibrary, fun a => D.laws_eqLibrary a.1 a.2⟩
noncomputable def v_laws_eqLibrary : Env := { ti := look tab, Γ := fns [(17, [], e_laws_eqIntS)], loop := fun _ => none, cut := fun _ => none, deep := fun _ => false }
theorem c_laws_eqLibrary : Contract Try.prog 102 e_laws_eqLibrary.sig e_laws_eqLibrary.F :=
  den_is (E := v_laws_eqLibrary) ⟨tab_ti, tab_eq⟩ (fns_cons c_laws_eqIntS (fns_nil _)) mixed Try.func102 (by kernel_rfl) (by kernel_rfl) (fun x => by kernel_rfl)

def s_laws_eqLibraryS : Sig := { params := [.val false y26, .val false y26], res := [.val false y4] }
noncomputable def e_laws_eqLibraryS : Entry := ⟨s_laws_eqLibraryS, fun a => D.laws_eqLibraryS a.1 a.2⟩
noncomputable def v_laws_eqLibraryS : Env := { ti := look tab, Γ := fns [(102, [], e_laws_eqLibrary)], loop := fun b => match b with | 0 => some [.slot 5 (.int .i64)] | _ => none, cut := fun _ => none, deep := fun _ => false }
theorem c_laws_eqLibraryS : Contract Try.prog 18 e_laws_eqLibraryS.sig e_laws_eqLibraryS.F :=
  den_is (E := v_laws_eqLibraryS) ⟨tab_ti, tab_eq⟩ (fns_cons c_laws_eqLibrary (fns_nil _)) mixed Try.func18 (by kernel_rfl) (by kernel_rfl) (fun x => by kernel_rfl)

def s_laws_markIntS : Sig := { params := [.io 3 y3, .val false y3], res := [.val false y3] }
noncomputable def e_laws_markIntS : Entry := ⟨s_laws_markIntS, fun a => D.laws_markIntS a.1 a.2⟩
noncomputable def v_laws_markIntS : Env := { ti := look tab, Γ := fns [], loop := fun b => match b with | 0 => some [.slot 1 (.int .i64), .slot 5 (.int .i64), .vec 0 3 y3 true] | _ => none, cut := fun _ => none, deep := fun _ => false }
theorem c_laws_markIntS : Contract Try.prog 20 e_laws_markIntS.sig e_laws_markIntS.F :=
  den_is (E := v_laws_markIntS) ⟨tab_ti, tab_eq⟩ (fns_nil _) mixed Try.func20 (by kernel_rfl) (by kernel_rfl) (fun x => by kernel_rfl)

def s_laws_markLibraryS : Sig := { params := [.io 147 y147, .val false y3], res := [.val false y3] }
noncomputable def e_laws_markLibraryS : Entry := ⟨s_laws_markLibraryS, fun a => D.laws_markLibraryS a.1 a.2⟩
noncomputable def v_laws_markLibraryS : Env := { ti := look tab, Γ := fns [(20, [], e_laws_markIntS)], loop := fun b => match b with | 0 => some [.slot 1 (.int .i64), .slot 5 (.int .i64), .vec 0 147 y147 true] | _ => none, cut := fun _ => none, deep := fun _ => false }
theorem c_laws_markLibraryS : Contract Try.prog 19 e_laws_markLibraryS.sig e_laws_markLibraryS.F :=
  den_is (E := v_laws_markLibraryS) ⟨tab_ti, tab_eq⟩ (fns_cons c_laws_markIntS (fns_nil _)) mixed Try.func19 (by kernel_rfl) (by kernel_rfl) (fun x => by kernel_rfl)

def s_laws_heldIntS : Sig := { params := [.val false y24, .val false y3], res := [.val false y3] }
noncomputable def e_laws_heldIntS : Entry := ⟨s_laws_heldIntS, fun a => D.laws_heldIntS a.1 a.2⟩
noncomputable def v_laws_heldIntS : Env := { ti := look tab, Γ := fns [], loop := fun b => match b with | 0 => some [.slot 1 (.int .i64), .slot 5 (.int .i64)] | _ => none, cut := fun _ => none, deep := fun _ => false }
theorem c_laws_heldIntS : Contract Try.prog 21 e_laws_heldIntS.sig e_laws_heldIntS.F :=
  den_is (E := v_laws_heldIntS) ⟨tab_ti, tab_eq⟩ (fns_nil _) mixed Try.func21 (by kernel_rfl) (by kernel_rfl) (fun x => by kernel_rfl)

def s_laws_FnExactHoldersOf : Sig := { params := [.val false y22, .val false y3], res := [.val false y4] }
noncomputable def e_laws_FnExactHoldersOf : Entry := ⟨s_laws_FnExactHoldersOf, fun a => D.laws_FnExactHoldersOf a.1 a.2⟩
noncomputable def v_laws_FnExactHoldersOf : Env := { ti := look tab, Γ := fns [(13, [], e_laws_szLibraryS), (15, [], e_laws_toLibraryS), (14, [], e_spec_HoldersOf), (16, [], e_impl_HoldersOf), (17, [], e_laws_eqIntS), (18, [], e_laws_eqLibraryS), (19, [], e_laws_markLibraryS), (20, [], e_laws_markIntS), (21, [], e_laws_heldIntS)], loop := fun _ => none, cut := fun _ => none, deep := fun _ => false }
theorem c_laws_FnExactHoldersOf : Contract Try.prog 3 e_laws_FnExactHoldersOf.sig e_laws_FnExactHoldersOf.F :=
  den_is (E := v_laws_FnExactHoldersOf) ⟨tab_ti, tab_eq⟩ (fns_cons c_laws_szLibraryS (fns_cons c_laws_toLibraryS (fns_cons c_spec_HoldersOf (fns_cons c_impl_HoldersOf (fns_cons c_laws_eqIntS (fns_cons c_laws_eqLibraryS (fns_cons c_laws_markLibraryS (fns_cons c_laws_markIntS (fns_cons c_laws_heldIntS (fns_nil _)))))))))) mixed Try.func3 (by kernel_rfl) (by kernel_rfl) (fun x => by kernel_rfl)

theorem law_true (a : Tup (s_laws_FnExactHoldersOf.params.map PTy.den)) (hok : argsOk Try.prog s_laws_FnExactHoldersOf.params a) : D.laws_FnExactHoldersOf a.1 a.2 = some true := D.FnExactHoldersOf_true a.1 a.2 (Ty.ok_bd (P := Try.prog) (t := y22) (by kernel_rfl) hok.1) (Ty.ok_bd (P := Try.prog) (t := y3) (by kernel_rfl) hok.2.1)
theorem lifted (os : Os) (started : os.Started) (H : Type) (enc : TypeId × Value → H) :
    ReturnsInHanded {} Try.checked os 3 .any (Rows.fnExactHoldersOfSpec.pre6 enc Try.prog Try.f3 Rows.fnExactHoldersOfRow.domain false) (Rows.fnExactHoldersOfSpec.post enc Try.prog Try.f3 false true false false) := by
  refine returnsInHanded_of_change_sized (C := Try.checked) (by kernel_rfl) started (by kernel_rfl) Try.func3
    (ChangeSpec.witness6 (enc := enc) (C := Try.checked) false ⟨#[], #[.slice none 0 0, .int .i64 0], []⟩ 8 (by kernel_rfl) (by kernel_rfl) (by kernel_rfl) (by kernel_rfl)) ?_
  intro W base args ds gs before hval hW hcnd hsz _
  exact law_row (C := Try.checked) rfl c_laws_FnExactHoldersOf (N := 8) (by kernel_rfl) (tb := 4) (by kernel_rfl) (by kernel_rfl) (by kernel_rfl) (by kernel_rfl) rfl
    (fun ds h => by
      have h : ds.length = 2 := h
      match ds, h with
      | [d0, d1], _ => rfl)
    bulky_sizeOf (small := fun _ => True) (fun a ds hok _ _ => ⟨_, law_true a hok, rfl⟩) hval hW hsz trivial

theorem over : Rows.fnExactHoldersOfRow.holds Try.pinned (OpenSpec.ofChange Rows.fnExactHoldersOfSpec) :=
  OpenClaim.holds_of_wide 3 Try.f3 rfl rfl rfl rfl rfl rfl rfl ⟨rfl, rfl, rfl, rfl, rfl⟩ rfl rfl rfl rfl rfl (by kernel_rfl) Try.func3 (by kernel_rfl)
    (of_decide_eq_true (by kernel_rfl)) (by unfold Func.isWrapper; first | (rw [if_pos (by decide +kernel)]; kernel_rfl) | (rw [if_neg (by decide +kernel)]; exact ⟨rfl, rfl⟩))
    (fun os started H enc _ => lifted os started H enc)
end Go.Proofs.Ythmpjemfgejccaa.SxFnExactHoldersOf
namespace Go.Proofs.Ythmpjemfgejccaa
theorem fnExactHoldersOf_holds : Rows.FnExactHoldersOfSaid := SxFnExactHoldersOf.over
end Go.Proofs.Ythmpjemfgejccaa
