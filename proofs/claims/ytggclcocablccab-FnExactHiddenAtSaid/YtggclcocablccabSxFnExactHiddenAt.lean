/- FnExactHiddenAt returns true for every input, and each input reads as it did. No condition. -/
import Derived.Test.YtggclcocablccabRows
import Derived.Test.YtggclcocablccabPuFnExactHiddenAt
import Derived.WalkKit
import Derived.ProofKit
import Derived.ShutString
import Derived.SizedLaws
set_option linter.unusedVariables false
set_option maxRecDepth 100000
set_option maxHeartbeats 4000000
namespace Go.Proofs.Ytggclcocablccab.SxFnExactHiddenAt
open Go Go.Sh Go.RowKit
def y3 : Ty := .int .i64
def y4 : Ty := .bool
def y72 : Ty := .pair y3 (.pair y3 (.pair y4 y3))
def y22 : Ty := .slice 72 y72
def y24 : Ty := .slice 3 y3
def y70 : Ty := .pair y3 (.pair y3 (.pair y4 y3))
def y26 : Ty := .slice 70 y70
def tab : List (TypeId × TI) := [(3, { size := 1, bytes := 8, agg := false, ty := some y3 }),
  (4, { size := 1, bytes := 1, agg := false, ty := some y4 }),
  (72, { size := 4, bytes := 32, agg := true, ty := some y72, fields := [(0, 3), (1, 3), (2, 4), (3, 3)] }),
  (22, { size := 1, bytes := 24, agg := false, ty := some y22, elem := some 72 }),
  (24, { size := 1, bytes := 24, agg := false, ty := some y24, elem := some 3 }),
  (70, { size := 4, bytes := 32, agg := true, ty := some y70, fields := [(0, 3), (1, 3), (2, 4), (3, 3)] }),
  (26, { size := 1, bytes := 24, agg := false, ty := some y26, elem := some 70 })]
def look : List (TypeId × TI) → TypeId → Option TI
  | [], _ => none
  | (k, i) :: r, t => if Nat.beq t k = true then some i else look r t
theorem look_ok {P : Program} : ∀ {l : List (TypeId × TI)}, (l.all fun p => tiOk P p.1 p.2) = true → ∀ t i, look l t = some i → tiOk P t i = true
  | [], _, t, i, h => by simp [look] at h
  | (k, j) :: r, h0, t, i, h => by
    simp only [List.all_cons, Bool.and_eq_true] at h0
    simp only [look] at h
    split at h
    · rename_i hk
      simp only [Option.some.injEq] at h
      have := Nat.eq_of_beq_eq_true hk
      subst this; subst h; exact h0.1
    · exact look_ok h0.2 t i h
theorem look_eq {P : Program} : ∀ {l : List (TypeId × TI)}, (l.all fun p => !p.2.eq || eqTop P p.1 p.2.ty) = true → ∀ t i, look l t = some i → i.eq = true → ∀ ty, i.ty = some ty → EqLaw P t ty.zero
  | [], _, t, i, h => by simp [look] at h
  | (k, j) :: r, h0, t, i, h => by
    simp only [List.all_cons, Bool.and_eq_true, Bool.or_eq_true, Bool.not_eq_true'] at h0
    simp only [look] at h
    split at h
    · rename_i hk
      simp only [Option.some.injEq] at h
      have := Nat.eq_of_beq_eq_true hk
      subst this; subst h
      intro he
      exact eqLaw_of (h0.1.resolve_left (by simp [he]))
    · exact look_eq h0.2 t i h
def same : List Nat → List Nat → Bool
  | [], [] => true
  | a :: x, b :: y => Nat.beq a b && same x y
  | _, _ => false
theorem same_eq : ∀ {x y : List Nat}, same x y = true → x = y
  | [], [], _ => rfl
  | a :: x, b :: y, h => by
    simp only [same, Bool.and_eq_true] at h
    rw [Nat.eq_of_beq_eq_true h.1, same_eq h.2]
  | [], _ :: _, h => by simp [same] at h
  | _ :: _, [], h => by simp [same] at h
def fns : List (FuncId × List FuncId × Entry) → FuncId → List FuncId → Option Entry
  | [], _, _ => none
  | (k, c, e) :: r, f, fs => if (Nat.beq f k && same fs c) = true then some e else fns r f fs
theorem fns_nil (P : Program) : ∀ f fs en, fns [] f fs = some en → Contract P f en.sig en.F := fun f fs en h => by simp [fns] at h
theorem fns_cons {P : Program} {k : FuncId} {c : List FuncId} {e : Entry} {r : List (FuncId × List FuncId × Entry)} (hk : Contract P k e.sig e.F) (hr : ∀ f fs en, fns r f fs = some en → Contract P f en.sig en.F) : ∀ f fs en, fns ((k, c, e) :: r) f fs = some en → Contract P f en.sig en.F := fun f fs en h => by
  simp only [fns] at h
  split at h
  · rename_i hf
    simp only [Bool.and_eq_true] at hf
    simp only [Option.some.injEq] at h
    have := Nat.eq_of_beq_eq_true hf.1
    subst this; subst h; exact hk
  · exact hr f fs en h

theorem tab_ti : ∀ t i, look tab t = some i → tiOk Try.prog t i = true := look_ok (by kernel_rfl)
theorem tab_eq : ∀ t i, look tab t = some i → i.eq = true → ∀ ty, i.ty = some ty → EqLaw Try.prog t ty.zero := look_eq (by kernel_rfl)
theorem mixed : Try.prog.follows .mixedOrders = true := by kernel_rfl
def s_laws_szLeafS : Sig := { params := [.val false y22, .val false y3], res := [.val false y3] }
noncomputable def e_laws_szLeafS : Entry := ⟨s_laws_szLeafS, fun a => D.laws_szLeafS a.1 a.2⟩
noncomputable def v_laws_szLeafS : Env := { ti := look tab, Γ := fns [], loop := fun _ => none, cut := fun _ => none, deep := fun _ => false }
theorem c_laws_szLeafS : Contract Try.prog 9 e_laws_szLeafS.sig e_laws_szLeafS.F :=
  den_is (E := v_laws_szLeafS) ⟨tab_ti, tab_eq⟩ (fns_nil _) mixed Try.func9 (by kernel_rfl) (by kernel_rfl) (fun x => by kernel_rfl)

def s_laws_toLeaf : Sig := { params := [.val true y72], res := [.val true y70] }
noncomputable def e_laws_toLeaf : Entry := ⟨s_laws_toLeaf, fun a => D.laws_toLeaf a⟩
noncomputable def v_laws_toLeaf : Env := { ti := look tab, Γ := fns [], loop := fun _ => none, cut := fun _ => none, deep := fun _ => false }
theorem c_laws_toLeaf : Contract Try.prog 40 e_laws_toLeaf.sig e_laws_toLeaf.F :=
  den_is (E := v_laws_toLeaf) ⟨tab_ti, tab_eq⟩ (fns_nil _) mixed Try.func40 (by kernel_rfl) (by kernel_rfl) (fun x => by kernel_rfl)

def s_laws_toLeafS : Sig := { params := [.val false y22], res := [.row 70 y70 false] }
noncomputable def e_laws_toLeafS : Entry := ⟨s_laws_toLeafS, fun a => D.laws_toLeafS a⟩
noncomputable def v_laws_toLeafS : Env := { ti := look tab, Γ := fns [(40, [], e_laws_toLeaf)], loop := fun b => match b with | 0 => some [.slot 4 (.int .i64), .vec 3 70 y70 false] | _ => none, cut := fun _ => none, deep := fun _ => false }
theorem c_laws_toLeafS : Contract Try.prog 11 e_laws_toLeafS.sig e_laws_toLeafS.F :=
  den_is (E := v_laws_toLeafS) ⟨tab_ti, tab_eq⟩ (fns_cons c_laws_toLeaf (fns_nil _)) mixed Try.func11 (by kernel_rfl) (by kernel_rfl) (fun x => by kernel_rfl)

def s_spec_HiddenAt : Sig := { params := [.val false y26], res := [.row 3 y3 false] }
noncomputable def e_spec_HiddenAt : Entry := ⟨s_spec_HiddenAt, fun a => D.spec_HiddenAt a⟩
noncomputable def v_spec_HiddenAt : Env := { ti := look tab, Γ := fns [], loop := fun b => match b with | 0 => some [.slot 3 (.own 3 y3 false), .slot 4 (.int .i64)] | _ => none, cut := fun _ => none, deep := fun _ => false }
theorem c_spec_HiddenAt : Contract Try.prog 10 e_spec_HiddenAt.sig e_spec_HiddenAt.F :=
  den_is (E := v_spec_HiddenAt) ⟨tab_ti, tab_eq⟩ (fns_nil _) mixed Try.func10 (by kernel_rfl) (by kernel_rfl) (fun x => by kernel_rfl)

def s_impl_HiddenAt : Sig := { params := [.val false y26], res := [.row 3 y3 false] }
noncomputable def e_impl_HiddenAt : Entry := ⟨s_impl_HiddenAt, fun a => D.impl_HiddenAt a⟩
noncomputable def v_impl_HiddenAt : Env := { ti := look tab, Γ := fns [], loop := fun b => match b with | 0 => some [.slot 3 (.own 3 y3 false), .slot 8 (.int .i64)] | _ => none, cut := fun _ => none, deep := fun _ => false }
theorem c_impl_HiddenAt : Contract Try.prog 12 e_impl_HiddenAt.sig e_impl_HiddenAt.F :=
  den_is (E := v_impl_HiddenAt) ⟨tab_ti, tab_eq⟩ (fns_nil _) mixed Try.func12 (by kernel_rfl) (by kernel_rfl) (fun x => by kernel_rfl)

def s_laws_eqIntS : Sig := { params := [.val false y24, .val false y24], res := [.val false y4] }
noncomputable def e_laws_eqIntS : Entry := ⟨s_laws_eqIntS, fun a => D.laws_eqIntS a.1 a.2⟩
noncomputable def v_laws_eqIntS : Env := { ti := look tab, Γ := fns [], loop := fun b => match b with | 0 => some [.slot 5 (.int .i64)] | _ => none, cut := fun _ => none, deep := fun _ => false }
theorem c_laws_eqIntS : Contract Try.prog 13 e_laws_eqIntS.sig e_laws_eqIntS.F :=
  den_is (E := v_laws_eqIntS) ⟨tab_ti, tab_eq⟩ (fns_nil _) mixed Try.func13 (by kernel_rfl) (by kernel_rfl) (fun x => by kernel_rfl)

def s_laws_eqLeaf : Sig := { params := [.val true y70, .val true y70], res := [.val false y4] }
noncomputable def e_laws_eqLeaf : Entry := ⟨s_laws_eqLeaf, fun a => D.laws_eqLeaf a.1 a.2⟩
noncomputable def v_laws_eqLeaf : Env := { ti := look tab, Γ := fns [], loop := fun _ => none, cut := fun _ => none, deep := fun _ => false }
theorem c_laws_eqLeaf : Contract Try.prog 41 e_laws_eqLeaf.sig e_laws_eqLeaf.F :=
  den_is (E := v_laws_eqLeaf) ⟨tab_ti, tab_eq⟩ (fns_nil _) mixed Try.func41 (by kernel_rfl) (by kernel_rfl) (fun x => by kernel_rfl)

def s_laws_eqLeafS : Sig := { params := [.val false y26, .val false y26], res := [.val false y4] }
noncomputable def e_laws_eqLeafS : Entry := ⟨s_laws_eqLeafS, fun a => D.laws_eqLeafS a.1 a.2⟩
noncomputable def v_laws_eqLeafS : Env := { ti := look tab, Γ := fns [(41, [], e_laws_eqLeaf)], loop := fun b => match b with | 0 => some [.slot 5 (.int .i64)] | _ => none, cut := fun _ => none, deep := fun _ => false }
theorem c_laws_eqLeafS : Contract Try.prog 14 e_laws_eqLeafS.sig e_laws_eqLeafS.F :=
  den_is (E := v_laws_eqLeafS) ⟨tab_ti, tab_eq⟩ (fns_cons c_laws_eqLeaf (fns_nil _)) mixed Try.func14 (by kernel_rfl) (by kernel_rfl) (fun x => by kernel_rfl)

def s_laws_markLeafS : Sig := { params := [.io 70 y70, .val false y3], res := [.val false y3] }
noncomputable def e_laws_markLeafS : Entry := ⟨s_laws_markLeafS, fun a => D.laws_markLeafS a.1 a.2⟩
noncomputable def v_laws_markLeafS : Env := { ti := look tab, Γ := fns [], loop := fun b => match b with | 0 => some [.slot 1 (.int .i64), .slot 5 (.int .i64), .vec 0 70 y70 true] | _ => none, cut := fun _ => none, deep := fun _ => false }
theorem c_laws_markLeafS : Contract Try.prog 15 e_laws_markLeafS.sig e_laws_markLeafS.F :=
  den_is (E := v_laws_markLeafS) ⟨tab_ti, tab_eq⟩ (fns_nil _) mixed Try.func15 (by kernel_rfl) (by kernel_rfl) (fun x => by kernel_rfl)

def s_laws_markIntS : Sig := { params := [.io 3 y3, .val false y3], res := [.val false y3] }
noncomputable def e_laws_markIntS : Entry := ⟨s_laws_markIntS, fun a => D.laws_markIntS a.1 a.2⟩
noncomputable def v_laws_markIntS : Env := { ti := look tab, Γ := fns [], loop := fun b => match b with | 0 => some [.slot 1 (.int .i64), .slot 5 (.int .i64), .vec 0 3 y3 true] | _ => none, cut := fun _ => none, deep := fun _ => false }
theorem c_laws_markIntS : Contract Try.prog 16 e_laws_markIntS.sig e_laws_markIntS.F :=
  den_is (E := v_laws_markIntS) ⟨tab_ti, tab_eq⟩ (fns_nil _) mixed Try.func16 (by kernel_rfl) (by kernel_rfl) (fun x => by kernel_rfl)

def s_laws_heldIntS : Sig := { params := [.val false y24, .val false y3], res := [.val false y3] }
noncomputable def e_laws_heldIntS : Entry := ⟨s_laws_heldIntS, fun a => D.laws_heldIntS a.1 a.2⟩
noncomputable def v_laws_heldIntS : Env := { ti := look tab, Γ := fns [], loop := fun b => match b with | 0 => some [.slot 1 (.int .i64), .slot 5 (.int .i64)] | _ => none, cut := fun _ => none, deep := fun _ => false }
theorem c_laws_heldIntS : Contract Try.prog 17 e_laws_heldIntS.sig e_laws_heldIntS.F :=
  den_is (E := v_laws_heldIntS) ⟨tab_ti, tab_eq⟩ (fns_nil _) mixed Try.func17 (by kernel_rfl) (by kernel_rfl) (fun x => by kernel_rfl)

def s_laws_FnExactHiddenAt : Sig := { params := [.val false y22], res := [.val false y4] }
noncomputable def e_laws_FnExactHiddenAt : Entry := ⟨s_laws_FnExactHiddenAt, fun a => D.laws_FnExactHiddenAt a⟩
noncomputable def v_laws_FnExactHiddenAt : Env := { ti := look tab, Γ := fns [(9, [], e_laws_szLeafS), (11, [], e_laws_toLeafS), (10, [], e_spec_HiddenAt), (12, [], e_impl_HiddenAt), (13, [], e_laws_eqIntS), (14, [], e_laws_eqLeafS), (15, [], e_laws_markLeafS), (16, [], e_laws_markIntS), (17, [], e_laws_heldIntS)], loop := fun _ => none, cut := fun _ => none, deep := fun _ => false }
theorem c_laws_FnExactHiddenAt : Contract Try.prog 3 e_laws_FnExactHiddenAt.sig e_laws_FnExactHiddenAt.F :=
  den_is (E := v_laws_FnExactHiddenAt) ⟨tab_ti, tab_eq⟩ (fns_cons c_laws_szLeafS (fns_cons c_laws_toLeafS (fns_cons c_spec_HiddenAt (fns_cons c_impl_HiddenAt (fns_cons c_laws_eqIntS (fns_cons c_laws_eqLeafS (fns_cons c_laws_markLeafS (fns_cons c_laws_markIntS (fns_cons c_laws_heldIntS (fns_nil _)))))))))) mixed Try.func3 (by kernel_rfl) (by kernel_rfl) (fun x => by kernel_rfl)

theorem law_true (a : Tup (s_laws_FnExactHiddenAt.params.map PTy.den)) (hok : argsOk Try.prog s_laws_FnExactHiddenAt.params a) : D.laws_FnExactHiddenAt a = some true := D.FnExactHiddenAt_true a (Ty.ok_bd (P := Try.prog) (t := y22) (by kernel_rfl) hok.1)
theorem lifted (os : Os) (started : os.Started) (H : Type) (enc : TypeId × Value → H) :
    ReturnsInHanded {} Try.checked os 3 .any (Rows.fnExactHiddenAtSpec.pre6 enc Try.prog Try.f3 Rows.fnExactHiddenAtRow.domain false) (Rows.fnExactHiddenAtSpec.post enc Try.prog Try.f3 false true false false) := by
  refine returnsInHanded_of_change_sized (C := Try.checked) (by kernel_rfl) started (by kernel_rfl) Try.func3
    (ChangeSpec.witness6 (enc := enc) (C := Try.checked) false ⟨#[], #[.slice none 0 0], []⟩ 8 (by kernel_rfl) (by kernel_rfl) (by kernel_rfl) (by kernel_rfl)) ?_
  intro W base args ds gs before hval hW hcnd hsz _
  exact law_row (C := Try.checked) rfl c_laws_FnExactHiddenAt (N := 8) (by kernel_rfl) (tb := 4) (by kernel_rfl) (by kernel_rfl) (by kernel_rfl) (by kernel_rfl) rfl
    (fun ds h => by
      have h : ds.length = 1 := h
      match ds, h with
      | [d0], _ => rfl)
    bulky_sizeOf (small := fun _ => True) (fun a ds hok _ _ => ⟨_, law_true a hok, rfl⟩) hval hW hsz trivial

theorem over : Rows.fnExactHiddenAtRow.holds Try.pinned (OpenSpec.ofChange Rows.fnExactHiddenAtSpec) :=
  OpenClaim.holds_of_wide 3 Try.f3 rfl rfl rfl rfl rfl rfl rfl ⟨rfl, rfl, rfl, rfl, rfl⟩ rfl rfl rfl rfl rfl (by kernel_rfl) Try.func3 (by kernel_rfl)
    (of_decide_eq_true (by kernel_rfl)) (by unfold Func.isWrapper; first | (rw [if_pos (by decide +kernel)]; kernel_rfl) | (rw [if_neg (by decide +kernel)]; exact ⟨rfl, rfl⟩))
    (fun os started H enc _ => lifted os started H enc)
end Go.Proofs.Ytggclcocablccab.SxFnExactHiddenAt
namespace Go.Proofs.Ytggclcocablccab
theorem fnExactHiddenAt_holds : Rows.FnExactHiddenAtSaid := SxFnExactHiddenAt.over
end Go.Proofs.Ytggclcocablccab
