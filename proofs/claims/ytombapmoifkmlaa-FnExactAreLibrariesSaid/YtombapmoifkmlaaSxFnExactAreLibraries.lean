/- FnExactAreLibraries returns true for every input, and each input reads as it did. No condition. -/
import Derived.Test.YtombapmoifkmlaaRows
import Derived.Test.YtombapmoifkmlaaPuFnExactAreLibraries
import Derived.Test.YtombapmoifkmlaaEx
import Derived.WalkKit
import Derived.ProofKit
import Derived.ShutString
import Derived.SizedLaws
set_option linter.unusedVariables false
set_option maxRecDepth 100000
set_option maxHeartbeats 4000000
namespace Go.Proofs.Ytombapmoifkmlaa.SxFnExactAreLibraries
open Go Go.Sh Go.RowKit
def y3 : Ty := .int .i64
def y4 : Ty := .bool
def y22 : Ty := .slice 3 y3
def y74 : Ty := .pair y3 (.pair y22 (.pair y4 y4))
def y34 : Ty := .slice 74 y74
def y76 : Ty := .pair y3 (.pair y22 (.pair y4 y4))
def y37 : Ty := .slice 76 y76
def tab : List (TypeId × TI) := [(3, { size := 1, bytes := 8, agg := false, ty := some y3 }),
  (4, { size := 1, bytes := 1, agg := false, ty := some y4 }),
  (22, { size := 1, bytes := 24, agg := false, ty := some y22, elem := some 3 }),
  (74, { size := 4, bytes := 40, agg := true, ty := some y74, fields := [(0, 3), (1, 22), (2, 4), (3, 4)] }),
  (34, { size := 1, bytes := 24, agg := false, ty := some y34, elem := some 74 }),
  (76, { size := 4, bytes := 40, agg := true, ty := some y76, fields := [(0, 3), (1, 22), (2, 4), (3, 4)] }),
  (37, { size := 1, bytes := 24, agg := false, ty := some y37, elem := some 76 })]
def look : List (TypeId × TI) → TypeId → Option TI
  | [], _ => none
  | (k, i) :: r, t => if Nat.beq t k = true then some i else look r t
theorem look_ok {P : Program} : ∀ {l : List (TypeId × TI)}, (l.all fun p => tiOk P p.1 p.2) = true → ∀ t i, look l t = some i → tiOk P t i = true
  | [], _, t, i, h => by simp [look] at h
  | (k, j) :: r, h0, t, i, h => by
    simp only [List.all_cons, Bool.and_eq_true] at h0
    simp only [look] at h
    split at h
    · rename_i hk
      simp only [Option.some.injEq] at h
      have := Nat.eq_of_beq_eq_true hk
      subst this; subst h; exact h0.1
    · exact look_ok h0.2 t i h
theorem look_eq {P : Program} : ∀ {l : List (TypeId × TI)}, (l.all fun p => !p.2.eq || eqTop P p.1 p.2.ty) = true → ∀ t i, look l t = some i → i.eq = true → ∀ ty, i.ty = some ty → EqLaw P t ty.zero
  | [], _, t, i, h => by simp [look] at h
  | (k, j) :: r, h0, t, i, h => by
    simp only [List.all_cons, Bool.and_eq_true, Bool.or_eq_true, Bool.not_eq_true'] at h0
    simp only [look] at h
    split at h
    · rename_i hk
      simp only [Option.some.injEq] at h
      have := Nat.eq_of_beq_eq_true hk
      subst this; subst h
      intro he
      exact eqLaw_of (h0.1.resolve_left (by simp [he]))
    · exact look_eq h0.2 t i h
def same : List Nat → List Nat → Bool
  | [], [] => true
  | a :: x, b :: y => Nat.beq a b && same x y
  | _, _ => false
theorem same_eq : ∀ {x y : List Nat}, same x y = true → x = y
  | [], [], _ => rfl
  | a :: x, b :: y, h => by
    simp only [same, Bool.and_eq_true] at h
    rw [Nat.eq_of_beq_eq_true h.1, same_eq h.2]
  | [], _ :: _, h => by simp [same] at h
  | _ :: _, [], h => by simp [same] at h
def fns : List (FuncId × List FuncId × Entry) → FuncId → List FuncId → Option Entry
  | [], _, _ => none
  | (k, c, e) :: r, f, fs => if (Nat.beq f k && same fs c) = true then some e else fns r f fs
theorem fns_nil (P : Program) : ∀ f fs en, fns [] f fs = some en → Contract P f en.sig en.F := fun f fs en h => by simp [fns] at h
theorem fns_cons {P : Program} {k : FuncId} {c : List FuncId} {e : Entry} {r : List (FuncId × List FuncId × Entry)} (hk : Contract P k e.sig e.F) (hr : ∀ f fs en, fns r f fs = some en → Contract P f en.sig en.F) : ∀ f fs en, fns ((k, c, e) :: r) f fs = some en → Contract P f en.sig en.F := fun f fs en h => by
  simp only [fns] at h
  split at h
  · rename_i hf
    simp only [Bool.and_eq_true] at hf
    simp only [Option.some.injEq] at h
    have := Nat.eq_of_beq_eq_true hf.1
    subst this; subst h; exact hk
  · exact hr f fs en h

theorem tab_ti : ∀ t i, look tab t = some i → tiOk Try.prog t i = true := look_ok (by kernel_rfl)
theorem tab_eq : ∀ t i, look tab t = some i → i.eq = true → ∀ ty, i.ty = some ty → EqLaw Try.prog t ty.zero := look_eq (by kernel_rfl)
theorem mixed : Try.prog.follows .mixedOrders = true := by kernel_rfl
def s_laws_szIntS : Sig := { params := [.val false y22, .val false y3], res := [.val false y3] }
noncomputable def e_laws_szIntS : Entry := ⟨s_laws_szIntS, fun a => D.laws_szIntS a.1 a.2⟩
noncomputable def v_laws_szIntS : Env := { ti := look tab, Γ := fns [], loop := fun _ => none, cut := fun _ => none, deep := fun _ => false }
theorem c_laws_szIntS : Contract Try.prog 74 e_laws_szIntS.sig e_laws_szIntS.F :=
  den_is (E := v_laws_szIntS) ⟨tab_ti, tab_eq⟩ (fns_nil _) mixed Try.func74 (by kernel_rfl) (by kernel_rfl) (fun x => by kernel_rfl)

def s_laws_szLibrary : Sig := { params := [.val true y74, .val false y3], res := [.val false y3] }
noncomputable def e_laws_szLibrary : Entry := ⟨s_laws_szLibrary, fun a => D.laws_szLibrary a.1 a.2⟩
noncomputable def v_laws_szLibrary : Env := { ti := look tab, Γ := fns [(74, [], e_laws_szIntS)], loop := fun _ => none, cut := fun _ => none, deep := fun _ => false }
theorem c_laws_szLibrary : Contract Try.prog 45 e_laws_szLibrary.sig e_laws_szLibrary.F :=
  den_is (E := v_laws_szLibrary) ⟨tab_ti, tab_eq⟩ (fns_cons c_laws_szIntS (fns_nil _)) mixed Try.func45 (by kernel_rfl) (by kernel_rfl) (fun x => by kernel_rfl)

def s_laws_szLibraryS : Sig := { params := [.val false y34, .val false y3], res := [.val false y3] }
noncomputable def e_laws_szLibraryS : Entry := ⟨s_laws_szLibraryS, fun a => D.laws_szLibraryS a.1 a.2⟩
noncomputable def v_laws_szLibraryS : Env := { ti := look tab, Γ := fns [(45, [], e_laws_szLibrary)], loop := fun b => match b with | 0 => some [.slot 1 (.int .i64), .slot 5 (.int .i64)] | _ => none, cut := fun _ => none, deep := fun _ => false }
theorem c_laws_szLibraryS : Contract Try.prog 18 e_laws_szLibraryS.sig e_laws_szLibraryS.F :=
  den_is (E := v_laws_szLibraryS) ⟨tab_ti, tab_eq⟩ (fns_cons c_laws_szLibrary (fns_nil _)) mixed Try.func18 (by kernel_rfl) (by kernel_rfl) (fun x => by kernel_rfl)

def s_laws_toIntS : Sig := { params := [.val false y22], res := [.row 3 y3 false] }
noncomputable def e_laws_toIntS : Entry := ⟨s_laws_toIntS, fun a => D.laws_toIntS a⟩
noncomputable def v_laws_toIntS : Env := { ti := look tab, Γ := fns [], loop := fun b => match b with | 0 => some [.slot 4 (.int .i64), .vec 3 3 y3 false] | _ => none, cut := fun _ => none, deep := fun _ => false }
theorem c_laws_toIntS : Contract Try.prog 10 e_laws_toIntS.sig e_laws_toIntS.F :=
  den_is (E := v_laws_toIntS) ⟨tab_ti, tab_eq⟩ (fns_nil _) mixed Try.func10 (by kernel_rfl) (by kernel_rfl) (fun x => by kernel_rfl)

def s_laws_toLibrary : Sig := { params := [.val true y74], res := [.val false y3, .row 3 y3 false, .val false y4, .val false y4], rgroups := [some 4] }
noncomputable def e_laws_toLibrary : Entry := ⟨s_laws_toLibrary, fun a => D.laws_toLibrary a⟩
noncomputable def v_laws_toLibrary : Env := { ti := look tab, Γ := fns [(10, [], e_laws_toIntS)], loop := fun _ => none, cut := fun _ => none, deep := fun _ => false }
theorem c_laws_toLibrary : Contract Try.prog 47 e_laws_toLibrary.sig e_laws_toLibrary.F :=
  den_is (E := v_laws_toLibrary) ⟨tab_ti, tab_eq⟩ (fns_cons c_laws_toIntS (fns_nil _)) mixed Try.func47 (by kernel_rfl) (by kernel_rfl) (fun x => by kernel_rfl)

def s_laws_toLibraryS : Sig := { params := [.val false y34], res := [.row 76 y76 true] }
noncomputable def e_laws_toLibraryS : Entry := ⟨s_laws_toLibraryS, fun a => D.laws_toLibraryS a⟩
noncomputable def v_laws_toLibraryS : Env := { ti := look tab, Γ := fns [(47, [], e_laws_toLibrary)], loop := fun b => match b with | 0 => some [.slot 4 (.int .i64), .vec 3 76 y76 true] | _ => none, cut := fun _ => none, deep := fun t => Nat.beq t 7 }
theorem c_laws_toLibraryS : Contract Try.prog 20 e_laws_toLibraryS.sig e_laws_toLibraryS.F :=
  den_is (E := v_laws_toLibraryS) ⟨tab_ti, tab_eq⟩ (fns_cons c_laws_toLibrary (fns_nil _)) mixed Try.func20 (by kernel_rfl) (by kernel_rfl) (fun x => by kernel_rfl)

def s_spec_l1In : Sig := { params := [.val false y3, .val false y3, .val false y3], res := [.val false y4] }
noncomputable def e_spec_l1In : Entry := ⟨s_spec_l1In, fun a => D.spec_l1In a.1 a.2.1 a.2.2⟩
noncomputable def v_spec_l1In : Env := { ti := look tab, Γ := fns [], loop := fun _ => none, cut := fun _ => none, deep := fun _ => false }
theorem c_spec_l1In : Contract Try.prog 46 e_spec_l1In.sig e_spec_l1In.F :=
  den_is (E := v_spec_l1In) ⟨tab_ti, tab_eq⟩ (fns_nil _) mixed Try.func46 (by kernel_rfl) (by kernel_rfl) (fun x => by kernel_rfl)

def s_spec_AreLibraries : Sig := { params := [.val false y37], res := [.val false y4] }
noncomputable def e_spec_AreLibraries : Entry := ⟨s_spec_AreLibraries, fun a => D.spec_AreLibraries a⟩
noncomputable def v_spec_AreLibraries : Env := { ti := look tab, Γ := fns [(46, [], e_spec_l1In)], loop := fun b => match b with | 0 => some [.slot 3 (.int .i64)] | 2 => some [.slot 4 (.int .i64)] | _ => none, cut := fun _ => none, deep := fun _ => false }
theorem c_spec_AreLibraries : Contract Try.prog 19 e_spec_AreLibraries.sig e_spec_AreLibraries.F :=
  den_is (E := v_spec_AreLibraries) ⟨tab_ti, tab_eq⟩ (fns_cons c_spec_l1In (fns_nil _)) mixed Try.func19 (by kernel_rfl) (by kernel_rfl) (fun x => by kernel_rfl)

def s_impl_InRange : Sig := { params := [.val false y3, .val false y3, .val false y3], res := [.val false y4] }
noncomputable def e_impl_InRange : Entry := ⟨s_impl_InRange, fun a => D.impl_InRange a.1 a.2.1 a.2.2⟩
noncomputable def v_impl_InRange : Env := { ti := look tab, Γ := fns [], loop := fun _ => none, cut := fun _ => none, deep := fun _ => false }
theorem c_impl_InRange : Contract Try.prog 48 e_impl_InRange.sig e_impl_InRange.F :=
  den_is (E := v_impl_InRange) ⟨tab_ti, tab_eq⟩ (fns_nil _) mixed Try.func48 (by kernel_rfl) (by kernel_rfl) (fun x => by kernel_rfl)

def s_impl_sorted : Sig := { params := [.val false y22], res := [.row 3 y3 true] }
noncomputable def e_impl_sorted : Entry := ⟨s_impl_sorted, fun a => D.impl_sorted a⟩
theorem c_impl_sorted : Contract Try.prog 76 e_impl_sorted.sig e_impl_sorted.F := Go.Proofs.Ytombapmoifkmlaa.Ex.sorted_is

def s_slices_Equal_int : Sig := { params := [.val false y22, .val false y22], res := [.val false y4] }
noncomputable def e_slices_Equal_int : Entry := ⟨s_slices_Equal_int, fun a => D.slices_Equal_int a.1 a.2⟩
noncomputable def v_slices_Equal_int : Env := { ti := look tab, Γ := fns [], loop := fun b => match b with | 0 => some [.slot 13 (.int .i64)] | _ => none, cut := fun _ => none, deep := fun _ => false }
theorem c_slices_Equal_int : Contract Try.prog 75 e_slices_Equal_int.sig e_slices_Equal_int.F :=
  den_is (E := v_slices_Equal_int) ⟨tab_ti, tab_eq⟩ (fns_nil _) mixed Try.func75 (by kernel_rfl) (by kernel_rfl) (fun x => by kernel_rfl)

def s_impl_ascends : Sig := { params := [.val false y22], res := [.val false y4] }
noncomputable def e_impl_ascends : Entry := ⟨s_impl_ascends, fun a => D.impl_ascends a⟩
noncomputable def v_impl_ascends : Env := { ti := look tab, Γ := fns [(76, [], e_impl_sorted), (75, [], e_slices_Equal_int)], loop := fun _ => none, cut := fun _ => none, deep := fun _ => false }
theorem c_impl_ascends : Contract Try.prog 49 e_impl_ascends.sig e_impl_ascends.F :=
  den_is (E := v_impl_ascends) ⟨tab_ti, tab_eq⟩ (fns_cons c_impl_sorted (fns_cons c_slices_Equal_int (fns_nil _))) mixed Try.func49 (by kernel_rfl) (by kernel_rfl) (fun x => by kernel_rfl)

def s_impl_AreLibraries : Sig := { params := [.val false y37], res := [.val false y4] }
noncomputable def e_impl_AreLibraries : Entry := ⟨s_impl_AreLibraries, fun a => D.impl_AreLibraries a⟩
noncomputable def v_impl_AreLibraries : Env := { ti := look tab, Γ := fns [(48, [], e_impl_InRange), (49, [], e_impl_ascends)], loop := fun b => match b with | 0 => some [.slot 3 (.int .i64), .slot 11 (.int .i64)] | _ => none, cut := fun _ => none, deep := fun _ => false }
theorem c_impl_AreLibraries : Contract Try.prog 21 e_impl_AreLibraries.sig e_impl_AreLibraries.F :=
  den_is (E := v_impl_AreLibraries) ⟨tab_ti, tab_eq⟩ (fns_cons c_impl_InRange (fns_cons c_impl_ascends (fns_nil _))) mixed Try.func21 (by kernel_rfl) (by kernel_rfl) (fun x => by kernel_rfl)

def s_laws_eqIntS : Sig := { params := [.val false y22, .val false y22], res := [.val false y4] }
noncomputable def e_laws_eqIntS : Entry := ⟨s_laws_eqIntS, fun a => D.laws_eqIntS a.1 a.2⟩
noncomputable def v_laws_eqIntS : Env := { ti := look tab, Γ := fns [], loop := fun b => match b with | 0 => some [.slot 5 (.int .i64)] | _ => none, cut := fun _ => none, deep := fun _ => false }
theorem c_laws_eqIntS : Contract Try.prog 13 e_laws_eqIntS.sig e_laws_eqIntS.F :=
  den_is (E := v_laws_eqIntS) ⟨tab_ti, tab_eq⟩ (fns_nil _) mixed Try.func13 (by kernel_rfl) (by kernel_rfl) (fun x => by kernel_rfl)

def s_laws_eqLibrary : Sig := { params := [.val true y76, .val true y76], res := [.val false y4] }
noncomputable def e_laws_eqLibrary : Entry := ⟨s_laws_eqLibrary, fun a => D.laws_eqLibrary a.1 a.2⟩
noncomputable def v_laws_eqLibrary : Env := { ti := look tab, Γ := fns [(13, [], e_laws_eqIntS)], loop := fun _ => none, cut := fun _ => none, deep := fun _ => false }
theorem c_laws_eqLibrary : Contract Try.prog 50 e_laws_eqLibrary.sig e_laws_eqLibrary.F :=
  den_is (E := v_laws_eqLibrary) ⟨tab_ti, tab_eq⟩ (fns_cons c_laws_eqIntS (fns_nil _)) mixed Try.func50 (by kernel_rfl) (by kernel_rfl) (fun x => by kernel_rfl)

def s_laws_eqLibraryS : Sig := { params := [.val false y37, .val false y37], res := [.val false y4] }
noncomputable def e_laws_eqLibraryS : Entry := ⟨s_laws_eqLibraryS, fun a => D.laws_eqLibraryS a.1 a.2⟩
noncomputable def v_laws_eqLibraryS : Env := { ti := look tab, Γ := fns [(50, [], e_laws_eqLibrary)], loop := fun b => match b with | 0 => some [.slot 5 (.int .i64)] | _ => none, cut := fun _ => none, deep := fun _ => false }
theorem c_laws_eqLibraryS : Contract Try.prog 22 e_laws_eqLibraryS.sig e_laws_eqLibraryS.F :=
  den_is (E := v_laws_eqLibraryS) ⟨tab_ti, tab_eq⟩ (fns_cons c_laws_eqLibrary (fns_nil _)) mixed Try.func22 (by kernel_rfl) (by kernel_rfl) (fun x => by kernel_rfl)

def s_laws_FnExactAreLibraries : Sig := { params := [.val false y34], res := [.val false y4] }
noncomputable def e_laws_FnExactAreLibraries : Entry := ⟨s_laws_FnExactAreLibraries, fun a => D.laws_FnExactAreLibraries a⟩
noncomputable def v_laws_FnExactAreLibraries : Env := { ti := look tab, Γ := fns [(18, [], e_laws_szLibraryS), (20, [], e_laws_toLibraryS), (19, [], e_spec_AreLibraries), (21, [], e_impl_AreLibraries), (22, [], e_laws_eqLibraryS)], loop := fun _ => none, cut := fun _ => none, deep := fun _ => false }
theorem c_laws_FnExactAreLibraries : Contract Try.prog 4 e_laws_FnExactAreLibraries.sig e_laws_FnExactAreLibraries.F :=
  den_is (E := v_laws_FnExactAreLibraries) ⟨tab_ti, tab_eq⟩ (fns_cons c_laws_szLibraryS (fns_cons c_laws_toLibraryS (fns_cons c_spec_AreLibraries (fns_cons c_impl_AreLibraries (fns_cons c_laws_eqLibraryS (fns_nil _)))))) mixed Try.func4 (by kernel_rfl) (by kernel_rfl) (fun x => by kernel_rfl)

theorem law_true (a : Tup (s_laws_FnExactAreLibraries.params.map PTy.den)) (hok : argsOk Try.prog s_laws_FnExactAreLibraries.params a) : D.laws_FnExactAreLibraries a = some true := D.FnExactAreLibraries_true a (Ty.ok_bd (P := Try.prog) (t := y34) (by kernel_rfl) hok.1)
theorem lifted (os : Os) (started : os.Started) (H : Type) (enc : TypeId × Value → H) :
    ReturnsInHanded {} Try.checked os 4 .any (Rows.fnExactAreLibrariesSpec.pre6 enc Try.prog Try.f4 Rows.fnExactAreLibrariesRow.domain false) (Rows.fnExactAreLibrariesSpec.post enc Try.prog Try.f4 false true false false) := by
  refine returnsInHanded_of_change_sized (C := Try.checked) (by kernel_rfl) started (by kernel_rfl) Try.func4
    (ChangeSpec.witness6 (enc := enc) (C := Try.checked) false ⟨#[], #[.slice none 0 0], []⟩ 8 (by kernel_rfl) (by kernel_rfl) (by kernel_rfl) (by kernel_rfl)) ?_
  intro W base args ds gs before hval hW hcnd hsz _
  exact law_row (C := Try.checked) rfl c_laws_FnExactAreLibraries (N := 8) (by kernel_rfl) (tb := 4) (by kernel_rfl) (by kernel_rfl) (by kernel_rfl) (by kernel_rfl) rfl
    (fun ds h => by
      have h : ds.length = 1 := h
      match ds, h with
      | [d0], _ => rfl)
    bulky_sizeOf (small := fun _ => True) (fun a ds hok _ _ => ⟨_, law_true a hok, rfl⟩) hval hW hsz trivial

theorem over : Rows.fnExactAreLibrariesRow.holds Try.pinned (OpenSpec.ofChange Rows.fnExactAreLibrariesSpec) :=
  OpenClaim.holds_of_wide 4 Try.f4 rfl rfl rfl rfl rfl rfl rfl ⟨rfl, rfl, rfl, rfl, rfl⟩ rfl rfl rfl rfl rfl (by kernel_rfl) Try.func4 (by kernel_rfl)
    (of_decide_eq_true (by kernel_rfl)) (by unfold Func.isWrapper; first | (rw [if_pos (by decide +kernel)]; kernel_rfl) | (rw [if_neg (by decide +kernel)]; exact ⟨rfl, rfl⟩))
    (fun os started H enc _ => lifted os started H enc)
end Go.Proofs.Ytombapmoifkmlaa.SxFnExactAreLibraries
namespace Go.Proofs.Ytombapmoifkmlaa
theorem fnExactAreLibraries_holds : Rows.FnExactAreLibrariesSaid := SxFnExactAreLibraries.over
end Go.Proofs.Ytombapmoifkmlaa
