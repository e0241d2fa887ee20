/- FnExactHideLeaves returns true for every input, and each input reads as it did. No condition. -/
import Derived.Test.YtkcdbncblmbekaaRows
import Derived.Test.YtkcdbncblmbekaaPuFnExactHideLeaves
import Derived.WalkKit
import Derived.ProofKit
import Derived.ShutString
import Derived.SizedLaws
set_option linter.unusedVariables false
set_option maxRecDepth 100000
set_option maxHeartbeats 4000000
namespace Go.Proofs.Ytkcdbncblmbekaa.SxFnExactHideLeaves
open Go Go.Sh Go.RowKit
def y3 : Ty := .int .i64
def y4 : Ty := .bool
def y87 : Ty := .pair y3 (.pair y3 (.pair y4 y3))
def y29 : Ty := .slice 87 y87
def y30 : Ty := .slice 3 y3
def y85 : Ty := .pair y3 (.pair y3 (.pair y4 y3))
def y32 : Ty := .slice 85 y85
def tab : List (TypeId × TI) := [(3, { size := 1, bytes := 8, agg := false, ty := some y3 }),
  (4, { size := 1, bytes := 1, agg := false, ty := some y4 }),
  (87, { size := 4, bytes := 32, agg := true, ty := some y87, fields := [(0, 3), (1, 3), (2, 4), (3, 3)] }),
  (29, { size := 1, bytes := 24, agg := false, ty := some y29, elem := some 87 }),
  (30, { size := 1, bytes := 24, agg := false, ty := some y30, elem := some 3 }),
  (85, { size := 4, bytes := 32, agg := true, ty := some y85, fields := [(0, 3), (1, 3), (2, 4), (3, 3)] }),
  (32, { size := 1, bytes := 24, agg := false, ty := some y32, elem := some 85 })]
def look : List (TypeId × TI) → TypeId → Option TI
  | [], _ => none
  | (k, i) :: r, t => if Nat.beq t k = true then some i else look r t
theorem look_ok {P : Program} : ∀ {l : List (TypeId × TI)}, (l.all fun p => tiOk P p.1 p.2) = true → ∀ t i, look l t = some i → tiOk P t i = true
  | [], _, t, i, h => by simp [look] at h
  | (k, j) :: r, h0, t, i, h => by
    simp only [List.all_cons, Bool.and_eq_true] at h0
    simp only [look] at h
    split at h
    · rename_i hk
      simp only [Option.some.injEq] at h
      have := Nat.eq_of_beq_eq_true hk
      subst this; subst h; exact h0.1
    · exact look_ok h0.2 t i h
theorem look_eq {P : Program} : ∀ {l : List (TypeId × TI)}, (l.all fun p => !p.2.eq || eqTop P p.1 p.2.ty) = true → ∀ t i, look l t = some i → i.eq = true → ∀ ty, i.ty = some ty → EqLaw P t ty.zero
  | [], _, t, i, h => by simp [look] at h
  | (k, j) :: r, h0, t, i, h => by
    simp only [List.all_cons, Bool.and_eq_true, Bool.or_eq_true, Bool.not_eq_true'] at h0
    simp only [look] at h
    split at h
    · rename_i hk
      simp only [Option.some.injEq] at h
      have := Nat.eq_of_beq_eq_true hk
      subst this; subst h
      intro he
      exact eqLaw_of (h0.1.resolve_left (by simp [he]))
    · exact look_eq h0.2 t i h
def same : List Nat → List Nat → Bool
  | [], [] => true
  | a :: x, b :: y => Nat.beq a b && same x y
  | _, _ => false
theorem same_eq : ∀ {x y : List Nat}, same x y = true → x = y
  | [], [], _ => rfl
  | a :: x, b :: y, h => by
    simp only [same, Bool.and_eq_true] at h
    rw [Nat.eq_of_beq_eq_true h.1, same_eq h.2]
  | [], _ :: _, h => by simp [same] at h
  | _ :: _, [], h => by simp [same] at h
def fns : List (FuncId × List FuncId × Entry) → FuncId → List FuncId → Option Entry
  | [], _, _ => none
  | (k, c, e) :: r, f, fs => if (Nat.beq f k && same fs c) = true then some e else fns r f fs
theorem fns_nil (P : Program) : ∀ f fs en, fns [] f fs = some en → Contract P f en.sig en.F := fun f fs en h => by simp [fns] at h
theorem fns_cons {P : Program} {k : FuncId} {c : List FuncId} {e : Entry} {r : List (FuncId × List FuncId × Entry)} (hk : Contract P k e.sig e.F) (hr : ∀ f fs en, fns r f fs = some en → Contract P f en.sig en.F) : ∀ f fs en, fns ((k, c, e) :: r) f fs = some en → Contract P f en.sig en.F := fun f fs en h => by
  simp only [fns] at h
  split at h
  · rename_i hf
    simp only [Bool.and_eq_true] at hf
    simp only [Option.some.injEq] at h
    have := Nat.eq_of_beq_eq_true hf.1
    subst this; subst h; exact hk
  · exact hr f fs en h

theorem tab_ti : ∀ t i, look tab t = some i → tiOk Try.prog t i = true := look_ok (by kernel_rfl)
theorem tab_eq : ∀ t i, look tab t = some i → i.eq = true → ∀ ty, i.ty = some ty → EqLaw Try.prog t ty.zero := look_eq (by kernel_rfl)
theorem mixed : Try.prog.follows .mixedOrders = true := by kernel_rfl
def s_laws_szLeafS : Sig := { params := [.val false y29, .val false y3], res := [.val false y3] }
noncomputable def e_laws_szLeafS : Entry := ⟨s_laws_szLeafS, fun a => D.laws_szLeafS a.1 a.2⟩
noncomputable def v_laws_szLeafS : Env := { ti := look tab, Γ := fns [], loop := fun _ => none, cut := fun _ => none, deep := fun _ => false }
theorem c_laws_szLeafS : Contract Try.prog 18 e_laws_szLeafS.sig e_laws_szLeafS.F :=
  den_is (E := v_laws_szLeafS) ⟨tab_ti, tab_eq⟩ (fns_nil _) mixed Try.func18 (by kernel_rfl) (by kernel_rfl) (fun x => by kernel_rfl)

def s_laws_toLeaf : Sig := { params := [.val true y87], res := [.val true y85] }
noncomputable def e_laws_toLeaf : Entry := ⟨s_laws_toLeaf, fun a => D.laws_toLeaf a⟩
noncomputable def v_laws_toLeaf : Env := { ti := look tab, Γ := fns [], loop := fun _ => none, cut := fun _ => none, deep := fun _ => false }
theorem c_laws_toLeaf : Contract Try.prog 65 e_laws_toLeaf.sig e_laws_toLeaf.F :=
  den_is (E := v_laws_toLeaf) ⟨tab_ti, tab_eq⟩ (fns_nil _) mixed Try.func65 (by kernel_rfl) (by kernel_rfl) (fun x => by kernel_rfl)

def s_laws_toLeafS : Sig := { params := [.val false y29], res := [.row 85 y85 false] }
noncomputable def e_laws_toLeafS : Entry := ⟨s_laws_toLeafS, fun a => D.laws_toLeafS a⟩
noncomputable def v_laws_toLeafS : Env := { ti := look tab, Γ := fns [(65, [], e_laws_toLeaf)], loop := fun b => match b with | 0 => some [.slot 4 (.int .i64), .vec 3 85 y85 false] | _ => none, cut := fun _ => none, deep := fun _ => false }
theorem c_laws_toLeafS : Contract Try.prog 20 e_laws_toLeafS.sig e_laws_toLeafS.F :=
  den_is (E := v_laws_toLeafS) ⟨tab_ti, tab_eq⟩ (fns_cons c_laws_toLeaf (fns_nil _)) mixed Try.func20 (by kernel_rfl) (by kernel_rfl) (fun x => by kernel_rfl)

def s_laws_toIntS : Sig := { params := [.val false y30], res := [.row 3 y3 false] }
noncomputable def e_laws_toIntS : Entry := ⟨s_laws_toIntS, fun a => D.laws_toIntS a⟩
noncomputable def v_laws_toIntS : Env := { ti := look tab, Γ := fns [], loop := fun b => match b with | 0 => some [.slot 4 (.int .i64), .vec 3 3 y3 false] | _ => none, cut := fun _ => none, deep := fun _ => false }
theorem c_laws_toIntS : Contract Try.prog 21 e_laws_toIntS.sig e_laws_toIntS.F :=
  den_is (E := v_laws_toIntS) ⟨tab_ti, tab_eq⟩ (fns_nil _) mixed Try.func21 (by kernel_rfl) (by kernel_rfl) (fun x => by kernel_rfl)

def s_spec_l1In : Sig := { params := [.val false y3, .val false y3, .val false y3], res := [.val false y4] }
noncomputable def e_spec_l1In : Entry := ⟨s_spec_l1In, fun a => D.spec_l1In a.1 a.2.1 a.2.2⟩
noncomputable def v_spec_l1In : Env := { ti := look tab, Γ := fns [], loop := fun _ => none, cut := fun _ => none, deep := fun _ => false }
theorem c_spec_l1In : Contract Try.prog 64 e_spec_l1In.sig e_spec_l1In.F :=
  den_is (E := v_spec_l1In) ⟨tab_ti, tab_eq⟩ (fns_nil _) mixed Try.func64 (by kernel_rfl) (by kernel_rfl) (fun x => by kernel_rfl)

def s_spec_HideLeaves : Sig := { params := [.val false y32, .val false y30], res := [.row 85 y85 false] }
noncomputable def e_spec_HideLeaves : Entry := ⟨s_spec_HideLeaves, fun a => D.spec_HideLeaves a.1 a.2⟩
noncomputable def v_spec_HideLeaves : Env := { ti := look tab, Γ := fns [(64, [], e_spec_l1In)], loop := fun b => match b with | 0 => some [.slot 6 (.int .i64), .vec 5 85 y85 false] | _ => none, cut := fun _ => none, deep := fun _ => false }
theorem c_spec_HideLeaves : Contract Try.prog 19 e_spec_HideLeaves.sig e_spec_HideLeaves.F :=
  den_is (E := v_spec_HideLeaves) ⟨tab_ti, tab_eq⟩ (fns_cons c_spec_l1In (fns_nil _)) mixed Try.func19 (by kernel_rfl) (by kernel_rfl) (fun x => by kernel_rfl)

def s_slices_Clone_Leaf : Sig := { params := [.val false y32], res := [.row 85 y85 false] }
noncomputable def e_slices_Clone_Leaf : Entry := ⟨s_slices_Clone_Leaf, fun a => D.slices_Clone_Leaf a⟩
noncomputable def v_slices_Clone_Leaf : Env := { ti := look tab, Γ := fns [], loop := fun _ => none, cut := fun _ => none, deep := fun _ => false }
theorem c_slices_Clone_Leaf : Contract Try.prog 66 e_slices_Clone_Leaf.sig e_slices_Clone_Leaf.F :=
  den_is (E := v_slices_Clone_Leaf) ⟨tab_ti, tab_eq⟩ (fns_nil _) mixed Try.func66 (by kernel_rfl) (by kernel_rfl) (fun x => by kernel_rfl)

def s_impl_HideLeaves : Sig := { params := [.val false y32, .val false y30], res := [.row 85 y85 false] }
noncomputable def e_impl_HideLeaves : Entry := ⟨s_impl_HideLeaves, fun a => D.impl_HideLeaves a.1 a.2⟩
noncomputable def v_impl_HideLeaves : Env := { ti := look tab, Γ := fns [(66, [], e_slices_Clone_Leaf)], loop := fun b => match b with | 0 => some [.slot 12 (.int .i64), .vec 5 85 y85 false] | _ => none, cut := fun _ => none, deep := fun _ => false }
theorem c_impl_HideLeaves : Contract Try.prog 22 e_impl_HideLeaves.sig e_impl_HideLeaves.F :=
  den_is (E := v_impl_HideLeaves) ⟨tab_ti, tab_eq⟩ (fns_cons c_slices_Clone_Leaf (fns_nil _)) mixed Try.func22 (by kernel_rfl) (by kernel_rfl) (fun x => by kernel_rfl)

def s_laws_eqLeaf : Sig := { params := [.val true y85, .val true y85], res := [.val false y4] }
noncomputable def e_laws_eqLeaf : Entry := ⟨s_laws_eqLeaf, fun a => D.laws_eqLeaf a.1 a.2⟩
noncomputable def v_laws_eqLeaf : Env := { ti := look tab, Γ := fns [], loop := fun _ => none, cut := fun _ => none, deep := fun _ => false }
theorem c_laws_eqLeaf : Contract Try.prog 67 e_laws_eqLeaf.sig e_laws_eqLeaf.F :=
  den_is (E := v_laws_eqLeaf) ⟨tab_ti, tab_eq⟩ (fns_nil _) mixed Try.func67 (by kernel_rfl) (by kernel_rfl) (fun x => by kernel_rfl)

def s_laws_eqLeafS : Sig := { params := [.val false y32, .val false y32], res := [.val false y4] }
noncomputable def e_laws_eqLeafS : Entry := ⟨s_laws_eqLeafS, fun a => D.laws_eqLeafS a.1 a.2⟩
noncomputable def v_laws_eqLeafS : Env := { ti := look tab, Γ := fns [(67, [], e_laws_eqLeaf)], loop := fun b => match b with | 0 => some [.slot 5 (.int .i64)] | _ => none, cut := fun _ => none, deep := fun _ => false }
theorem c_laws_eqLeafS : Contract Try.prog 23 e_laws_eqLeafS.sig e_laws_eqLeafS.F :=
  den_is (E := v_laws_eqLeafS) ⟨tab_ti, tab_eq⟩ (fns_cons c_laws_eqLeaf (fns_nil _)) mixed Try.func23 (by kernel_rfl) (by kernel_rfl) (fun x => by kernel_rfl)

def s_laws_eqIntS : Sig := { params := [.val false y30, .val false y30], res := [.val false y4] }
noncomputable def e_laws_eqIntS : Entry := ⟨s_laws_eqIntS, fun a => D.laws_eqIntS a.1 a.2⟩
noncomputable def v_laws_eqIntS : Env := { ti := look tab, Γ := fns [], loop := fun b => match b with | 0 => some [.slot 5 (.int .i64)] | _ => none, cut := fun _ => none, deep := fun _ => false }
theorem c_laws_eqIntS : Contract Try.prog 24 e_laws_eqIntS.sig e_laws_eqIntS.F :=
  den_is (E := v_laws_eqIntS) ⟨tab_ti, tab_eq⟩ (fns_nil _) mixed Try.func24 (by kernel_rfl) (by kernel_rfl) (fun x => by kernel_rfl)

def s_laws_markLeafS : Sig := { params := [.io 85 y85, .val false y3], res := [.val false y3] }
noncomputable def e_laws_markLeafS : Entry := ⟨s_laws_markLeafS, fun a => D.laws_markLeafS a.1 a.2⟩
noncomputable def v_laws_markLeafS : Env := { ti := look tab, Γ := fns [], loop := fun b => match b with | 0 => some [.slot 1 (.int .i64), .slot 5 (.int .i64), .vec 0 85 y85 true] | _ => none, cut := fun _ => none, deep := fun _ => false }
theorem c_laws_markLeafS : Contract Try.prog 25 e_laws_markLeafS.sig e_laws_markLeafS.F :=
  den_is (E := v_laws_markLeafS) ⟨tab_ti, tab_eq⟩ (fns_nil _) mixed Try.func25 (by kernel_rfl) (by kernel_rfl) (fun x => by kernel_rfl)

def s_laws_markIntS : Sig := { params := [.io 3 y3, .val false y3], res := [.val false y3] }
noncomputable def e_laws_markIntS : Entry := ⟨s_laws_markIntS, fun a => D.laws_markIntS a.1 a.2⟩
noncomputable def v_laws_markIntS : Env := { ti := look tab, Γ := fns [], loop := fun b => match b with | 0 => some [.slot 1 (.int .i64), .slot 5 (.int .i64), .vec 0 3 y3 true] | _ => none, cut := fun _ => none, deep := fun _ => false }
theorem c_laws_markIntS : Contract Try.prog 26 e_laws_markIntS.sig e_laws_markIntS.F :=
  den_is (E := v_laws_markIntS) ⟨tab_ti, tab_eq⟩ (fns_nil _) mixed Try.func26 (by kernel_rfl) (by kernel_rfl) (fun x => by kernel_rfl)

def s_laws_heldLeafS : Sig := { params := [.val false y32, .val false y3], res := [.val false y3] }
noncomputable def e_laws_heldLeafS : Entry := ⟨s_laws_heldLeafS, fun a => D.laws_heldLeafS a.1 a.2⟩
noncomputable def v_laws_heldLeafS : Env := { ti := look tab, Γ := fns [], loop := fun b => match b with | 0 => some [.slot 1 (.int .i64), .slot 5 (.int .i64)] | _ => none, cut := fun _ => none, deep := fun _ => false }
theorem c_laws_heldLeafS : Contract Try.prog 27 e_laws_heldLeafS.sig e_laws_heldLeafS.F :=
  den_is (E := v_laws_heldLeafS) ⟨tab_ti, tab_eq⟩ (fns_nil _) mixed Try.func27 (by kernel_rfl) (by kernel_rfl) (fun x => by kernel_rfl)

def s_laws_FnExactHideLeaves : Sig := { params := [.val false y29, .val false y30], res := [.val false y4] }
noncomputable def e_laws_FnExactHideLeaves : Entry := ⟨s_laws_FnExactHideLeaves, fun a => D.laws_FnExactHideLeaves a.1 a.2⟩
noncomputable def v_laws_FnExactHideLeaves : Env := { ti := look tab, Γ := fns [(18, [], e_laws_szLeafS), (20, [], e_laws_toLeafS), (21, [], e_laws_toIntS), (19, [], e_spec_HideLeaves), (22, [], e_impl_HideLeaves), (23, [], e_laws_eqLeafS), (24, [], e_laws_eqIntS), (25, [], e_laws_markLeafS), (26, [], e_laws_markIntS), (27, [], e_laws_heldLeafS)], loop := fun _ => none, cut := fun _ => none, deep := fun _ => false }
theorem c_laws_FnExactHideLeaves : Contract Try.prog 4 e_laws_FnExactHideLeaves.sig e_laws_FnExactHideLeaves.F :=
  den_is (E := v_laws_FnExactHideLeaves) ⟨tab_ti, tab_eq⟩ (fns_cons c_laws_szLeafS (fns_cons c_laws_toLeafS (fns_cons c_laws_toIntS (fns_cons c_spec_HideLeaves (fns_cons c_impl_HideLeaves (fns_cons c_laws_eqLeafS (fns_cons c_laws_eqIntS (fns_cons c_laws_markLeafS (fns_cons c_laws_markIntS (fns_cons c_laws_heldLeafS (fns_nil _))))))))))) mixed Try.func4 (by kernel_rfl) (by kernel_rfl) (fun x => by kernel_rfl)

theorem law_true (a : Tup (s_laws_FnExactHideLeaves.params.map PTy.den)) (hok : argsOk Try.prog s_laws_FnExactHideLeaves.params a) : D.laws_FnExactHideLeaves a.1 a.2 = some true := D.FnExactHideLeaves_true a.1 a.2 (Ty.ok_bd (P := Try.prog) (t := y29) (by kernel_rfl) hok.1) (Ty.ok_bd (P := Try.prog) (t := y30) (by kernel_rfl) hok.2.1)
theorem lifted (os : Os) (started : os.Started) (H : Type) (enc : TypeId × Value → H) :
    ReturnsInHanded {} Try.checked os 4 .any (Rows.fnExactHideLeavesSpec.pre6 enc Try.prog Try.f4 Rows.fnExactHideLeavesRow.domain false) (Rows.fnExactHideLeavesSpec.post enc Try.prog Try.f4 false true false false) := by
  refine returnsInHanded_of_change_sized (C := Try.checked) (by kernel_rfl) started (by kernel_rfl) Try.func4
    (ChangeSpec.witness6 (enc := enc) (C := Try.checked) false ⟨#[], #[.slice none 0 0, .slice none 0 0], []⟩ 8 (by kernel_rfl) (by kernel_rfl) (by kernel_rfl) (by kernel_rfl)) ?_
  intro W base args ds gs before hval hW hcnd hsz _
  exact law_row (C := Try.checked) rfl c_laws_FnExactHideLeaves (N := 8) (by kernel_rfl) (tb := 4) (by kernel_rfl) (by kernel_rfl) (by kernel_rfl) (by kernel_rfl) rfl
    (fun ds h => by
      have h : ds.length = 2 := h
      match ds, h with
      | [d0, d1], _ => rfl)
    bulky_sizeOf (small := fun _ => True) (fun a ds hok _ _ => ⟨_, law_true a hok, rfl⟩) hval hW hsz trivial

theorem over : Rows.fnExactHideLeavesRow.holds Try.pinned (OpenSpec.ofChange Rows.fnExactHideLeavesSpec) :=
  OpenClaim.holds_of_wide 4 Try.f4 rfl rfl rfl rfl rfl rfl rfl ⟨rfl, rfl, rfl, rfl, rfl⟩ rfl rfl rfl rfl rfl (by kernel_rfl) Try.func4 (by kernel_rfl)
    (of_decide_eq_true (by kernel_rfl)) (by unfold Func.isWrapper; first | (rw [if_pos (by decide +kernel)]; kernel_rfl) | (rw [if_neg (by decide +kernel)]; exact ⟨rfl, rfl⟩))
    (fun os started H enc _ => lifted os started H enc)
end Go.Proofs.Ytkcdbncblmbekaa.SxFnExactHideLeaves
namespace Go.Proofs.Ytkcdbncblmbekaa
theorem fnExactHideLeaves_holds : Rows.FnExactHideLeavesSaid := SxFnExactHideLeaves.over
end Go.Proofs.Ytkcdbncblmbekaa
