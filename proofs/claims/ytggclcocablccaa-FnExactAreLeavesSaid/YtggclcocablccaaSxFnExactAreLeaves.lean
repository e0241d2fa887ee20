/- FnExactAreLeaves returns true for every input, and each input reads as it did. No condition. -/
import Derived.Test.YtggclcocablccaaRows
import Derived.Test.YtggclcocablccaaPuFnExactAreLeaves
import Derived.WalkKit
import Derived.ProofKit
import Derived.ShutString
import Derived.SizedLaws
set_option linter.unusedVariables false
set_option maxRecDepth 100000
set_option maxHeartbeats 4000000
namespace Go.Proofs.Ytggclcocablccaa.SxFnExactAreLeaves
open Go Go.Sh Go.RowKit
def y3 : Ty := .int .i64
def y4 : Ty := .bool
def y39 : Ty := .slice 3 y3
def y57 : Ty := .pair y3 (.pair y3 (.pair y4 y3))
def y44 : Ty := .slice 57 y57
def y55 : Ty := .pair y3 (.pair y3 (.pair y4 y3))
def y47 : Ty := .slice 55 y55
def tab : List (TypeId × TI) := [(3, { size := 1, bytes := 8, agg := false, ty := some y3 }),
  (4, { size := 1, bytes := 1, agg := false, ty := some y4 }),
  (39, { size := 1, bytes := 24, agg := false, ty := some y39, elem := some 3 }),
  (57, { size := 4, bytes := 32, agg := true, ty := some y57, fields := [(0, 3), (1, 3), (2, 4), (3, 3)] }),
  (44, { size := 1, bytes := 24, agg := false, ty := some y44, elem := some 57 }),
  (55, { size := 4, bytes := 32, agg := true, ty := some y55, fields := [(0, 3), (1, 3), (2, 4), (3, 3)] }),
  (47, { size := 1, bytes := 24, agg := false, ty := some y47, elem := some 55 })]
def look : List (TypeId × TI) → TypeId → Option TI
  | [], _ => none
  | (k, i) :: r, t => if Nat.beq t k = true then some i else look r t
theorem look_ok {P : Program} : ∀ {l : List (TypeId × TI)}, (l.all fun p => tiOk P p.1 p.2) = true → ∀ t i, look l t = some i → tiOk P t i = true
  | [], _, t, i, h => by simp [look] at h
  | (k, j) :: r, h0, t, i, h => by
    simp only [List.all_cons, Bool.and_eq_true] at h0
    simp only [look] at h
    split at h
    · rename_i hk
      simp only [Option.some.injEq] at h
      have := Nat.eq_of_beq_eq_true hk
      subst this; subst h; exact h0.1
    · exact look_ok h0.2 t i h
theorem look_eq {P : Program} : ∀ {l : List (TypeId × TI)}, (l.all fun p => !p.2.eq || eqTop P p.1 p.2.ty) = true → ∀ t i, look l t = some i → i.eq = true → ∀ ty, i.ty = some ty → EqLaw P t ty.zero
  | [], _, t, i, h => by simp [look] at h
  | (k, j) :: r, h0, t, i, h => by
    simp only [List.all_cons, Bool.and_eq_true, Bool.or_eq_true, Bool.not_eq_true'] at h0
    simp only [look] at h
    split at h
    · rename_i hk
      simp only [Option.some.injEq] at h
      have := Nat.eq_of_beq_eq_true hk
      subst this; subst h
      intro he
      exact eqLaw_of (h0.1.resolve_left (by simp [he]))
    · exact look_eq h0.2 t i h
def same : List Nat → List Nat → Bool
  | [], [] => true
  | a :: x, b :: y => Nat.beq a b && same x y
  | _, _ => false
theorem same_eq : ∀ {x y : List Nat}, same x y = true → x = y
  | [], [], _ => rfl
  | a :: x, b :: y, h => by
    simp only [same, Bool.and_eq_true] at h
    rw [Nat.eq_of_beq_eq_true h.1, same_eq h.2]
  | [], _ :: _, h => by simp [same] at h
  | _ :: _, [], h => by simp [same] at h
def fns : List (FuncId × List FuncId × Entry) → FuncId → List FuncId → Option Entry
  | [], _, _ => none
  | (k, c, e) :: r, f, fs => if (Nat.beq f k && same fs c) = true then some e else fns r f fs
theorem fns_nil (P : Program) : ∀ f fs en, fns [] f fs = some en → Contract P f en.sig en.F := fun f fs en h => by simp [fns] at h
theorem fns_cons {P : Program} {k : FuncId} {c : List FuncId} {e : Entry} {r : List (FuncId × List FuncId × Entry)} (hk : Contract P k e.sig e.F) (hr : ∀ f fs en, fns r f fs = some en → Contract P f en.sig en.F) : ∀ f fs en, fns ((k, c, e) :: r) f fs = some en → Contract P f en.sig en.F := fun f fs en h => by
  simp only [fns] at h
  split at h
  · rename_i hf
    simp only [Bool.and_eq_true] at hf
    simp only [Option.some.injEq] at h
    have := Nat.eq_of_beq_eq_true hf.1
    subst this; subst h; exact hk
  · exact hr f fs en h

theorem tab_ti : ∀ t i, look tab t = some i → tiOk Try.prog t i = true := look_ok (by kernel_rfl)
theorem tab_eq : ∀ t i, look tab t = some i → i.eq = true → ∀ ty, i.ty = some ty → EqLaw Try.prog t ty.zero := look_eq (by kernel_rfl)
theorem mixed : Try.prog.follows .mixedOrders = true := by kernel_rfl
def s_laws_szLeafS : Sig := { params := [.val false y44, .val false y3], res := [.val false y3] }
noncomputable def e_laws_szLeafS : Entry := ⟨s_laws_szLeafS, fun a => D.laws_szLeafS a.1 a.2⟩
noncomputable def v_laws_szLeafS : Env := { ti := look tab, Γ := fns [], loop := fun _ => none, cut := fun _ => none, deep := fun _ => false }
theorem c_laws_szLeafS : Contract Try.prog 24 e_laws_szLeafS.sig e_laws_szLeafS.F :=
  den_is (E := v_laws_szLeafS) ⟨tab_ti, tab_eq⟩ (fns_nil _) mixed Try.func24 (by kernel_rfl) (by kernel_rfl) (fun x => by kernel_rfl)

def s_laws_toLeaf : Sig := { params := [.val true y57], res := [.val true y55] }
noncomputable def e_laws_toLeaf : Entry := ⟨s_laws_toLeaf, fun a => D.laws_toLeaf a⟩
noncomputable def v_laws_toLeaf : Env := { ti := look tab, Γ := fns [], loop := fun _ => none, cut := fun _ => none, deep := fun _ => false }
theorem c_laws_toLeaf : Contract Try.prog 40 e_laws_toLeaf.sig e_laws_toLeaf.F :=
  den_is (E := v_laws_toLeaf) ⟨tab_ti, tab_eq⟩ (fns_nil _) mixed Try.func40 (by kernel_rfl) (by kernel_rfl) (fun x => by kernel_rfl)

def s_laws_toLeafS : Sig := { params := [.val false y44], res := [.row 55 y55 false] }
noncomputable def e_laws_toLeafS : Entry := ⟨s_laws_toLeafS, fun a => D.laws_toLeafS a⟩
noncomputable def v_laws_toLeafS : Env := { ti := look tab, Γ := fns [(40, [], e_laws_toLeaf)], loop := fun b => match b with | 0 => some [.slot 4 (.int .i64), .vec 3 55 y55 false] | _ => none, cut := fun _ => none, deep := fun _ => false }
theorem c_laws_toLeafS : Contract Try.prog 26 e_laws_toLeafS.sig e_laws_toLeafS.F :=
  den_is (E := v_laws_toLeafS) ⟨tab_ti, tab_eq⟩ (fns_cons c_laws_toLeaf (fns_nil _)) mixed Try.func26 (by kernel_rfl) (by kernel_rfl) (fun x => by kernel_rfl)

def s_spec_l1In : Sig := { params := [.val false y3, .val false y3, .val false y3], res := [.val false y4] }
noncomputable def e_spec_l1In : Entry := ⟨s_spec_l1In, fun a => D.spec_l1In a.1 a.2.1 a.2.2⟩
noncomputable def v_spec_l1In : Env := { ti := look tab, Γ := fns [], loop := fun _ => none, cut := fun _ => none, deep := fun _ => false }
theorem c_spec_l1In : Contract Try.prog 29 e_spec_l1In.sig e_spec_l1In.F :=
  den_is (E := v_spec_l1In) ⟨tab_ti, tab_eq⟩ (fns_nil _) mixed Try.func29 (by kernel_rfl) (by kernel_rfl) (fun x => by kernel_rfl)

def s_spec_Mod : Sig := { params := [.val false y3, .val false y3], res := [.val false y3] }
noncomputable def e_spec_Mod : Entry := ⟨s_spec_Mod, fun a => D.spec_Mod a.1 a.2⟩
noncomputable def v_spec_Mod : Env := { ti := look tab, Γ := fns [(29, [], e_spec_l1In)], loop := fun _ => none, cut := fun _ => none, deep := fun _ => false }
theorem c_spec_Mod : Contract Try.prog 31 e_spec_Mod.sig e_spec_Mod.F :=
  den_is (E := v_spec_Mod) ⟨tab_ti, tab_eq⟩ (fns_cons c_spec_l1In (fns_nil _)) mixed Try.func31 (by kernel_rfl) (by kernel_rfl) (fun x => by kernel_rfl)

def s_spec_Hash : Sig := { params := [.val false y39], res := [.val false y3] }
noncomputable def e_spec_Hash : Entry := ⟨s_spec_Hash, fun a => D.spec_Hash a⟩
noncomputable def v_spec_Hash : Env := { ti := look tab, Γ := fns [(31, [], e_spec_Mod)], loop := fun b => match b with | 0 => some [.slot 3 (.int .i64), .slot 4 (.int .i64)] | _ => none, cut := fun _ => none, deep := fun _ => false }
theorem c_spec_Hash : Contract Try.prog 32 e_spec_Hash.sig e_spec_Hash.F :=
  den_is (E := v_spec_Hash) ⟨tab_ti, tab_eq⟩ (fns_cons c_spec_Mod (fns_nil _)) mixed Try.func32 (by kernel_rfl) (by kernel_rfl) (fun x => by kernel_rfl)

def s_spec_AreLeaves : Sig := { params := [.val false y47], res := [.val false y4] }
noncomputable def e_spec_AreLeaves : Entry := ⟨s_spec_AreLeaves, fun a => D.spec_AreLeaves a⟩
noncomputable def v_spec_AreLeaves : Env := { ti := look tab, Γ := fns [(29, [], e_spec_l1In), (32, [], e_spec_Hash)], loop := fun b => match b with | 0 => some [.slot 3 (.int .i64)] | _ => none, cut := fun _ => none, deep := fun _ => false }
theorem c_spec_AreLeaves : Contract Try.prog 25 e_spec_AreLeaves.sig e_spec_AreLeaves.F :=
  den_is (E := v_spec_AreLeaves) ⟨tab_ti, tab_eq⟩ (fns_cons c_spec_l1In (fns_cons c_spec_Hash (fns_nil _))) mixed Try.func25 (by kernel_rfl) (by kernel_rfl) (fun x => by kernel_rfl)

def s_impl_InRange : Sig := { params := [.val false y3, .val false y3, .val false y3], res := [.val false y4] }
noncomputable def e_impl_InRange : Entry := ⟨s_impl_InRange, fun a => D.impl_InRange a.1 a.2.1 a.2.2⟩
noncomputable def v_impl_InRange : Env := { ti := look tab, Γ := fns [], loop := fun _ => none, cut := fun _ => none, deep := fun _ => false }
theorem c_impl_InRange : Contract Try.prog 30 e_impl_InRange.sig e_impl_InRange.F :=
  den_is (E := v_impl_InRange) ⟨tab_ti, tab_eq⟩ (fns_nil _) mixed Try.func30 (by kernel_rfl) (by kernel_rfl) (fun x => by kernel_rfl)

def s_impl_Mod : Sig := { params := [.val false y3, .val false y3], res := [.val false y3] }
noncomputable def e_impl_Mod : Entry := ⟨s_impl_Mod, fun a => D.impl_Mod a.1 a.2⟩
noncomputable def v_impl_Mod : Env := { ti := look tab, Γ := fns [(30, [], e_impl_InRange)], loop := fun _ => none, cut := fun _ => none, deep := fun _ => false }
theorem c_impl_Mod : Contract Try.prog 33 e_impl_Mod.sig e_impl_Mod.F :=
  den_is (E := v_impl_Mod) ⟨tab_ti, tab_eq⟩ (fns_cons c_impl_InRange (fns_nil _)) mixed Try.func33 (by kernel_rfl) (by kernel_rfl) (fun x => by kernel_rfl)

def s_impl_Hash : Sig := { params := [.val false y39], res := [.val false y3] }
noncomputable def e_impl_Hash : Entry := ⟨s_impl_Hash, fun a => D.impl_Hash a⟩
noncomputable def v_impl_Hash : Env := { ti := look tab, Γ := fns [(33, [], e_impl_Mod)], loop := fun b => match b with | 0 => some [.slot 3 (.int .i64), .slot 8 (.int .i64)] | _ => none, cut := fun _ => none, deep := fun _ => false }
theorem c_impl_Hash : Contract Try.prog 34 e_impl_Hash.sig e_impl_Hash.F :=
  den_is (E := v_impl_Hash) ⟨tab_ti, tab_eq⟩ (fns_cons c_impl_Mod (fns_nil _)) mixed Try.func34 (by kernel_rfl) (by kernel_rfl) (fun x => by kernel_rfl)

def s_impl_AreLeaves_1 : Sig := { params := [.val true y55], res := [.val false y4] }
noncomputable def e_impl_AreLeaves_1 : Entry := ⟨s_impl_AreLeaves_1, fun a => D.impl_AreLeaves_1 a⟩
noncomputable def v_impl_AreLeaves_1 : Env := { ti := look tab, Γ := fns [(30, [], e_impl_InRange), (34, [], e_impl_Hash)], loop := fun _ => none, cut := fun _ => none, deep := fun _ => false }
theorem c_impl_AreLeaves_1 : Contract Try.prog 42 e_impl_AreLeaves_1.sig e_impl_AreLeaves_1.F :=
  den_is (E := v_impl_AreLeaves_1) ⟨tab_ti, tab_eq⟩ (fns_cons c_impl_InRange (fns_cons c_impl_Hash (fns_nil _))) mixed Try.func42 (by kernel_rfl) (by kernel_rfl) (fun x => by kernel_rfl)

def s_slices_IndexFunc_Leaf_impl_AreLeaves_1 : Sig := { params := [.val false y47, .fn 42 []], res := [.val false y3] }
noncomputable def e_slices_IndexFunc_Leaf_impl_AreLeaves_1 : Entry := ⟨s_slices_IndexFunc_Leaf_impl_AreLeaves_1, fun a => D.slices_IndexFunc_Leaf_impl_AreLeaves_1 a.1⟩
noncomputable def v_slices_IndexFunc_Leaf_impl_AreLeaves_1 : Env := { ti := look tab, Γ := fns [(42, [], e_impl_AreLeaves_1)], loop := fun b => match b with | 0 => some [.slot 8 (.int .i64)] | _ => none, cut := fun _ => none, deep := fun _ => false }
theorem c_slices_IndexFunc_Leaf_impl_AreLeaves_1 : Contract Try.prog 44 e_slices_IndexFunc_Leaf_impl_AreLeaves_1.sig e_slices_IndexFunc_Leaf_impl_AreLeaves_1.F :=
  den_is (E := v_slices_IndexFunc_Leaf_impl_AreLeaves_1) ⟨tab_ti, tab_eq⟩ (fns_cons c_impl_AreLeaves_1 (fns_nil _)) mixed Try.func44 (by kernel_rfl) (by kernel_rfl) (fun x => by kernel_rfl)

def s_slices_ContainsFunc_Leaf_impl_AreLeaves_1 : Sig := { params := [.val false y47, .fn 42 []], res := [.val false y4] }
noncomputable def e_slices_ContainsFunc_Leaf_impl_AreLeaves_1 : Entry := ⟨s_slices_ContainsFunc_Leaf_impl_AreLeaves_1, fun a => D.slices_ContainsFunc_Leaf_impl_AreLeaves_1 a.1⟩
noncomputable def v_slices_ContainsFunc_Leaf_impl_AreLeaves_1 : Env := { ti := look tab, Γ := fns [(44, [42], e_slices_IndexFunc_Leaf_impl_AreLeaves_1)], loop := fun _ => none, cut := fun _ => none, deep := fun _ => false }
theorem c_slices_ContainsFunc_Leaf_impl_AreLeaves_1 : Contract Try.prog 41 e_slices_ContainsFunc_Leaf_impl_AreLeaves_1.sig e_slices_ContainsFunc_Leaf_impl_AreLeaves_1.F :=
  den_is (E := v_slices_ContainsFunc_Leaf_impl_AreLeaves_1) ⟨tab_ti, tab_eq⟩ (fns_cons c_slices_IndexFunc_Leaf_impl_AreLeaves_1 (fns_nil _)) mixed Try.func41 (by kernel_rfl) (by kernel_rfl) (fun x => by kernel_rfl)

def s_impl_AreLeaves : Sig := { params := [.val false y47], res := [.val false y4] }
noncomputable def e_impl_AreLeaves : Entry := ⟨s_impl_AreLeaves, fun a => D.impl_AreLeaves a⟩
noncomputable def v_impl_AreLeaves : Env := { ti := look tab, Γ := fns [(41, [42], e_slices_ContainsFunc_Leaf_impl_AreLeaves_1)], loop := fun _ => none, cut := fun _ => none, deep := fun _ => false }
theorem c_impl_AreLeaves : Contract Try.prog 27 e_impl_AreLeaves.sig e_impl_AreLeaves.F :=
  den_is (E := v_impl_AreLeaves) ⟨tab_ti, tab_eq⟩ (fns_cons c_slices_ContainsFunc_Leaf_impl_AreLeaves_1 (fns_nil _)) mixed Try.func27 (by kernel_rfl) (by kernel_rfl) (fun x => by kernel_rfl)

def s_laws_eqLeaf : Sig := { params := [.val true y55, .val true y55], res := [.val false y4] }
noncomputable def e_laws_eqLeaf : Entry := ⟨s_laws_eqLeaf, fun a => D.laws_eqLeaf a.1 a.2⟩
noncomputable def v_laws_eqLeaf : Env := { ti := look tab, Γ := fns [], loop := fun _ => none, cut := fun _ => none, deep := fun _ => false }
theorem c_laws_eqLeaf : Contract Try.prog 43 e_laws_eqLeaf.sig e_laws_eqLeaf.F :=
  den_is (E := v_laws_eqLeaf) ⟨tab_ti, tab_eq⟩ (fns_nil _) mixed Try.func43 (by kernel_rfl) (by kernel_rfl) (fun x => by kernel_rfl)

def s_laws_eqLeafS : Sig := { params := [.val false y47, .val false y47], res := [.val false y4] }
noncomputable def e_laws_eqLeafS : Entry := ⟨s_laws_eqLeafS, fun a => D.laws_eqLeafS a.1 a.2⟩
noncomputable def v_laws_eqLeafS : Env := { ti := look tab, Γ := fns [(43, [], e_laws_eqLeaf)], loop := fun b => match b with | 0 => some [.slot 5 (.int .i64)] | _ => none, cut := fun _ => none, deep := fun _ => false }
theorem c_laws_eqLeafS : Contract Try.prog 28 e_laws_eqLeafS.sig e_laws_eqLeafS.F :=
  den_is (E := v_laws_eqLeafS) ⟨tab_ti, tab_eq⟩ (fns_cons c_laws_eqLeaf (fns_nil _)) mixed Try.func28 (by kernel_rfl) (by kernel_rfl) (fun x => by kernel_rfl)

def s_laws_FnExactAreLeaves : Sig := { params := [.val false y44], res := [.val false y4] }
noncomputable def e_laws_FnExactAreLeaves : Entry := ⟨s_laws_FnExactAreLeaves, fun a => D.laws_FnExactAreLeaves a⟩
noncomputable def v_laws_FnExactAreLeaves : Env := { ti := look tab, Γ := fns [(24, [], e_laws_szLeafS), (26, [], e_laws_toLeafS), (25, [], e_spec_AreLeaves), (27, [], e_impl_AreLeaves), (28, [], e_laws_eqLeafS)], loop := fun _ => none, cut := fun _ => none, deep := fun _ => false }
theorem c_laws_FnExactAreLeaves : Contract Try.prog 8 e_laws_FnExactAreLeaves.sig e_laws_FnExactAreLeaves.F :=
  den_is (E := v_laws_FnExactAreLeaves) ⟨tab_ti, tab_eq⟩ (fns_cons c_laws_szLeafS (fns_cons c_laws_toLeafS (fns_cons c_spec_AreLeaves (fns_cons c_impl_AreLeaves (fns_cons c_laws_eqLeafS (fns_nil _)))))) mixed Try.func8 (by kernel_rfl) (by kernel_rfl) (fun x => by kernel_rfl)

theorem law_true (a : Tup (s_laws_FnExactAreLeaves.params.map PTy.den)) (hok : argsOk Try.prog s_laws_FnExactAreLeaves.params a) : D.laws_FnExactAreLeaves a = some true := D.FnExactAreLeaves_true a (Ty.ok_bd (P := Try.prog) (t := y44) (by kernel_rfl) hok.1)
theorem lifted (os : Os) (started : os.Started) (H : Type) (enc : TypeId × Value → H) :
    ReturnsInHanded {} Try.checked os 8 .any (Rows.fnExactAreLeavesSpec.pre6 enc Try.prog Try.f8 Rows.fnExactAreLeavesRow.domain false) (Rows.fnExactAreLeavesSpec.post enc Try.prog Try.f8 false true false false) := by
  refine returnsInHanded_of_change_sized (C := Try.checked) (by kernel_rfl) started (by kernel_rfl) Try.func8
    (ChangeSpec.witness6 (enc := enc) (C := Try.checked) false ⟨#[], #[.slice none 0 0], []⟩ 8 (by kernel_rfl) (by kernel_rfl) (by kernel_rfl) (by kernel_rfl)) ?_
  intro W base args ds gs before hval hW hcnd hsz _
  exact law_row (C := Try.checked) rfl c_laws_FnExactAreLeaves (N := 8) (by kernel_rfl) (tb := 4) (by kernel_rfl) (by kernel_rfl) (by kernel_rfl) (by kernel_rfl) rfl
    (fun ds h => by
      have h : ds.length = 1 := h
      match ds, h with
      | [d0], _ => rfl)
    bulky_sizeOf (small := fun _ => True) (fun a ds hok _ _ => ⟨_, law_true a hok, rfl⟩) hval hW hsz trivial

theorem over : Rows.fnExactAreLeavesRow.holds Try.pinned (OpenSpec.ofChange Rows.fnExactAreLeavesSpec) :=
  OpenClaim.holds_of_wide 8 Try.f8 rfl rfl rfl rfl rfl rfl rfl ⟨rfl, rfl, rfl, rfl, rfl⟩ rfl rfl rfl rfl rfl (by kernel_rfl) Try.func8 (by kernel_rfl)
    (of_decide_eq_true (by kernel_rfl)) (by unfold Func.isWrapper; first | (rw [if_pos (by decide +kernel)]; kernel_rfl) | (rw [if_neg (by decide +kernel)]; exact ⟨rfl, rfl⟩))
    (fun os started H enc _ => lifted os started H enc)
end Go.Proofs.Ytggclcocablccaa.SxFnExactAreLeaves
namespace Go.Proofs.Ytggclcocablccaa
theorem fnExactAreLeaves_holds : Rows.FnExactAreLeavesSaid := SxFnExactAreLeaves.over
end Go.Proofs.Ytggclcocablccaa
