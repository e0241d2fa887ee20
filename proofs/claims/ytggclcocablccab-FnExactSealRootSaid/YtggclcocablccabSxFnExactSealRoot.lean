/- FnExactSealRoot returns true for every input, and each input reads as it did. No condition. -/
import Derived.Test.YtggclcocablccabRows
import Derived.Test.YtggclcocablccabPuFnExactSealRoot
import Derived.WalkKit
import Derived.ProofKit
import Derived.ShutString
import Derived.SizedLaws
set_option linter.unusedVariables false
set_option maxRecDepth 100000
set_option maxHeartbeats 4000000
namespace Go.Proofs.Ytggclcocablccab.SxFnExactSealRoot
open Go Go.Sh Go.RowKit
def y3 : Ty := .int .i64
def y4 : Ty := .bool
def y72 : Ty := .pair y3 (.pair y3 (.pair y4 y3))
def y22 : Ty := .slice 72 y72
def y24 : Ty := .slice 3 y3
def y70 : Ty := .pair y3 (.pair y3 (.pair y4 y3))
def y26 : Ty := .slice 70 y70
def tab : List (TypeId × TI) := [(3, { size := 1, bytes := 8, agg := false, ty := some y3 }),
  (4, { size := 1, bytes := 1, agg := false, ty := some y4 }),
  (72, { size := 4, bytes := 32, agg := true, ty := some y72, fields := [(0, 3), (1, 3), (2, 4), (3, 3)] }),
  (22, { size := 1, bytes := 24, agg := false, ty := some y22, elem := some 72 }),
  (24, { size := 1, bytes := 24, agg := false, ty := some y24, elem := some 3 }),
  (70, { size := 4, bytes := 32, agg := true, ty := some y70, fields := [(0, 3), (1, 3), (2, 4), (3, 3)] }),
  (26, { size := 1, bytes := 24, agg := false, ty := some y26, elem := some 70 })]
def look : List (TypeId × TI) → TypeId → Option TI
  | [], _ => none
  | (k, i) :: r, t => if Nat.beq t k = true then some i else look r t
theorem look_ok {P : Program} : ∀ {l : List (TypeId × TI)}, (l.all fun p => tiOk P p.1 p.2) = true → ∀ t i, look l t = some i → tiOk P t i = true
  | [], _, t, i, h => by simp [look] at h
  | (k, j) :: r, h0, t, i, h => by
    simp only [List.all_cons, Bool.and_eq_true] at h0
    simp only [look] at h
    split at h
    · rename_i hk
      simp only [Option.some.injEq] at h
      have := Nat.eq_of_beq_eq_true hk
      subst this; subst h; exact h0.1
    · exact look_ok h0.2 t i h
theorem look_eq {P : Program} : ∀ {l : List (TypeId × TI)}, (l.all fun p => !p.2.eq || eqTop P p.1 p.2.ty) = true → ∀ t i, look l t = some i → i.eq = true → ∀ ty, i.ty = some ty → EqLaw P t ty.zero
  | [], _, t, i, h => by simp [look] at h
  | (k, j) :: r, h0, t, i, h => by
    simp only [List.all_cons, Bool.and_eq_true, Bool.or_eq_true, Bool.not_eq_true'] at h0
    simp only [look] at h
    split at h
    · rename_i hk
      simp only [Option.some.injEq] at h
      have := Nat.eq_of_beq_eq_true hk
      subst this; subst h
      intro he
      exact eqLaw_of (h0.1.resolve_left (by simp [he]))
    · exact look_eq h0.2 t i h
def same : List Nat → List Nat → Bool
  | [], [] => true
  | a :: x, b :: y => Nat.beq a b && same x y
  | _, _ => false
theorem same_eq : ∀ {x y : List Nat}, same x y = true → x = y
  | [], [], _ => rfl
  | a :: x, b :: y, h => by
    simp only [same, Bool.and_eq_true] at h
    rw [Nat.eq_of_beq_eq_true h.1, same_eq h.2]
  | [], _ :: _, h => by simp [same] at h
  | _ :: _, [], h => by simp [same] at h
def fns : List (FuncId × List FuncId × Entry) → FuncId → List FuncId → Option Entry
  | [], _, _ => none
  | (k, c, e) :: r, f, fs => if (Nat.beq f k && same fs c) = true then some e else fns r f fs
theorem fns_nil (P : Program) : ∀ f fs en, fns [] f fs = some en → Contract P f en.sig en.F := fun f fs en h => by simp [fns] at h
theorem fns_cons {P : Program} {k : FuncId} {c : List FuncId} {e : Entry} {r : List (FuncId × List FuncId × Entry)} (hk : Contract P k e.sig e.F) (hr : ∀ f fs en, fns r f fs = some en → Contract P f en.sig en.F) : ∀ f fs en, fns ((k, c, e) :: r) f fs = some en → Contract P f en.sig en.F := fun f fs en h => by
  simp only [fns] at h
  split at h
  · rename_i hf
    simp only [Bool.and_eq_true] at hf
    simp only [Option.some.injEq] at h
    have := Nat.eq_of_beq_eq_true hf.1
    subst this; subst h; exact hk
  · exact hr f fs en h

theorem tab_ti : ∀ t i, look tab t = some i → tiOk Try.prog t i = true := look_ok (by kernel_rfl)
theorem tab_eq : ∀ t i, look tab t = some i → i.eq = true → ∀ ty, i.ty = some ty → EqLaw Try.prog t ty.zero := look_eq (by kernel_rfl)
theorem mixed : Try.prog.follows .mixedOrders = true := by kernel_rfl
def s_laws_szLeafS : Sig := { params := [.val false y22, .val false y3], res := [.val false y3] }
noncomputable def e_laws_szLeafS : Entry := ⟨s_laws_szLeafS, fun a => D.laws_szLeafS a.1 a.2⟩
noncomputable def v_laws_szLeafS : Env := { ti := look tab, Γ := fns [], loop := fun _ => none, cut := fun _ => none, deep := fun _ => false }
theorem c_laws_szLeafS : Contract Try.prog 9 e_laws_szLeafS.sig e_laws_szLeafS.F :=
  den_is (E := v_laws_szLeafS) ⟨tab_ti, tab_eq⟩ (fns_nil _) mixed Try.func9 (by kernel_rfl) (by kernel_rfl) (fun x => by kernel_rfl)

def s_laws_toLeaf : Sig := { params := [.val true y72], res := [.val true y70] }
noncomputable def e_laws_toLeaf : Entry := ⟨s_laws_toLeaf, fun a => D.laws_toLeaf a⟩
noncomputable def v_laws_toLeaf : Env := { ti := look tab, Γ := fns [], loop := fun _ => none, cut := fun _ => none, deep := fun _ => false }
theorem c_laws_toLeaf : Contract Try.prog 40 e_laws_toLeaf.sig e_laws_toLeaf.F :=
  den_is (E := v_laws_toLeaf) ⟨tab_ti, tab_eq⟩ (fns_nil _) mixed Try.func40 (by kernel_rfl) (by kernel_rfl) (fun x => by kernel_rfl)

def s_laws_toLeafS : Sig := { params := [.val false y22], res := [.row 70 y70 false] }
noncomputable def e_laws_toLeafS : Entry := ⟨s_laws_toLeafS, fun a => D.laws_toLeafS a⟩
noncomputable def v_laws_toLeafS : Env := { ti := look tab, Γ := fns [(40, [], e_laws_toLeaf)], loop := fun b => match b with | 0 => some [.slot 4 (.int .i64), .vec 3 70 y70 false] | _ => none, cut := fun _ => none, deep := fun _ => false }
theorem c_laws_toLeafS : Contract Try.prog 11 e_laws_toLeafS.sig e_laws_toLeafS.F :=
  den_is (E := v_laws_toLeafS) ⟨tab_ti, tab_eq⟩ (fns_cons c_laws_toLeaf (fns_nil _)) mixed Try.func11 (by kernel_rfl) (by kernel_rfl) (fun x => by kernel_rfl)

def s_spec_l22Seals : Sig := { params := [.val false y26], res := [.row 3 y3 false] }
noncomputable def e_spec_l22Seals : Entry := ⟨s_spec_l22Seals, fun a => D.spec_l22Seals a⟩
noncomputable def v_spec_l22Seals : Env := { ti := look tab, Γ := fns [], loop := fun b => match b with | 0 => some [.slot 3 (.own 3 y3 false), .slot 4 (.int .i64)] | _ => none, cut := fun _ => none, deep := fun _ => false }
theorem c_spec_l22Seals : Contract Try.prog 60 e_spec_l22Seals.sig e_spec_l22Seals.F :=
  den_is (E := v_spec_l22Seals) ⟨tab_ti, tab_eq⟩ (fns_nil _) mixed Try.func60 (by kernel_rfl) (by kernel_rfl) (fun x => by kernel_rfl)

def s_spec_l1In : Sig := { params := [.val false y3, .val false y3, .val false y3], res := [.val false y4] }
noncomputable def e_spec_l1In : Entry := ⟨s_spec_l1In, fun a => D.spec_l1In a.1 a.2.1 a.2.2⟩
noncomputable def v_spec_l1In : Env := { ti := look tab, Γ := fns [], loop := fun _ => none, cut := fun _ => none, deep := fun _ => false }
theorem c_spec_l1In : Contract Try.prog 74 e_spec_l1In.sig e_spec_l1In.F :=
  den_is (E := v_spec_l1In) ⟨tab_ti, tab_eq⟩ (fns_nil _) mixed Try.func74 (by kernel_rfl) (by kernel_rfl) (fun x => by kernel_rfl)

def s_spec_Mod : Sig := { params := [.val false y3, .val false y3], res := [.val false y3] }
noncomputable def e_spec_Mod : Entry := ⟨s_spec_Mod, fun a => D.spec_Mod a.1 a.2⟩
noncomputable def v_spec_Mod : Env := { ti := look tab, Γ := fns [(74, [], e_spec_l1In)], loop := fun _ => none, cut := fun _ => none, deep := fun _ => false }
theorem c_spec_Mod : Contract Try.prog 99 e_spec_Mod.sig e_spec_Mod.F :=
  den_is (E := v_spec_Mod) ⟨tab_ti, tab_eq⟩ (fns_cons c_spec_l1In (fns_nil _)) mixed Try.func99 (by kernel_rfl) (by kernel_rfl) (fun x => by kernel_rfl)

def s_spec_Hash : Sig := { params := [.val false y24], res := [.val false y3] }
noncomputable def e_spec_Hash : Entry := ⟨s_spec_Hash, fun a => D.spec_Hash a⟩
noncomputable def v_spec_Hash : Env := { ti := look tab, Γ := fns [(99, [], e_spec_Mod)], loop := fun b => match b with | 0 => some [.slot 3 (.int .i64), .slot 4 (.int .i64)] | _ => none, cut := fun _ => none, deep := fun _ => false }
theorem c_spec_Hash : Contract Try.prog 86 e_spec_Hash.sig e_spec_Hash.F :=
  den_is (E := v_spec_Hash) ⟨tab_ti, tab_eq⟩ (fns_cons c_spec_Mod (fns_nil _)) mixed Try.func86 (by kernel_rfl) (by kernel_rfl) (fun x => by kernel_rfl)

def s_spec_RootOf : Sig := { params := [.val false y24], res := [.val false y3] }
noncomputable def e_spec_RootOf : Entry := ⟨s_spec_RootOf, fun a => D.spec_RootOf a⟩
noncomputable def v_spec_RootOf (n : Nat) : Env := { ti := look tab, Γ := fns [(59, [], ⟨s_spec_RootOf, fun a => D.spec_RootOf_f n a⟩), (86, [], e_spec_Hash)], loop := fun _ => none, cut := fun _ => none, deep := fun _ => false }
theorem cf_spec_RootOf : ∀ n : Nat, Contract Try.prog 59 s_spec_RootOf (fun a => D.spec_RootOf_f n a)
  | 0 => ⟨⟨_, Try.func59, by kernel_rfl, by kernel_rfl⟩, fun a out w S lent cx vals hF => by cases hF⟩
  | n + 1 => have ih := cf_spec_RootOf n; den_is (E := v_spec_RootOf n) ⟨tab_ti, tab_eq⟩ (fns_cons ih (fns_cons c_spec_Hash (fns_nil _))) mixed Try.func59 (by kernel_rfl) (by kernel_rfl) (fun x => by kernel_rfl)
theorem c_spec_RootOf : Contract Try.prog 59 e_spec_RootOf.sig e_spec_RootOf.F := ⟨(cf_spec_RootOf 0).1, fun a => (cf_spec_RootOf (a.length + 1)).2 a⟩

def s_spec_SealRoot : Sig := { params := [.val false y26], res := [.val false y3] }
noncomputable def e_spec_SealRoot : Entry := ⟨s_spec_SealRoot, fun a => D.spec_SealRoot a⟩
noncomputable def v_spec_SealRoot : Env := { ti := look tab, Γ := fns [(60, [], e_spec_l22Seals), (59, [], e_spec_RootOf)], loop := fun _ => none, cut := fun _ => none, deep := fun _ => false }
theorem c_spec_SealRoot : Contract Try.prog 25 e_spec_SealRoot.sig e_spec_SealRoot.F :=
  den_is (E := v_spec_SealRoot) ⟨tab_ti, tab_eq⟩ (fns_cons c_spec_l22Seals (fns_cons c_spec_RootOf (fns_nil _))) mixed Try.func25 (by kernel_rfl) (by kernel_rfl) (fun x => by kernel_rfl)

def s_impl_InRange : Sig := { params := [.val false y3, .val false y3, .val false y3], res := [.val false y4] }
noncomputable def e_impl_InRange : Entry := ⟨s_impl_InRange, fun a => D.impl_InRange a.1 a.2.1 a.2.2⟩
noncomputable def v_impl_InRange : Env := { ti := look tab, Γ := fns [], loop := fun _ => none, cut := fun _ => none, deep := fun _ => false }
theorem c_impl_InRange : Contract Try.prog 77 e_impl_InRange.sig e_impl_InRange.F :=
  den_is (E := v_impl_InRange) ⟨tab_ti, tab_eq⟩ (fns_nil _) mixed Try.func77 (by kernel_rfl) (by kernel_rfl) (fun x => by kernel_rfl)

def s_impl_Mod : Sig := { params := [.val false y3, .val false y3], res := [.val false y3] }
noncomputable def e_impl_Mod : Entry := ⟨s_impl_Mod, fun a => D.impl_Mod a.1 a.2⟩
noncomputable def v_impl_Mod : Env := { ti := look tab, Γ := fns [(77, [], e_impl_InRange)], loop := fun _ => none, cut := fun _ => none, deep := fun _ => false }
theorem c_impl_Mod : Contract Try.prog 96 e_impl_Mod.sig e_impl_Mod.F :=
  den_is (E := v_impl_Mod) ⟨tab_ti, tab_eq⟩ (fns_cons c_impl_InRange (fns_nil _)) mixed Try.func96 (by kernel_rfl) (by kernel_rfl) (fun x => by kernel_rfl)

def s_impl_Hash : Sig := { params := [.val false y24], res := [.val false y3] }
noncomputable def e_impl_Hash : Entry := ⟨s_impl_Hash, fun a => D.impl_Hash a⟩
noncomputable def v_impl_Hash : Env := { ti := look tab, Γ := fns [(96, [], e_impl_Mod)], loop := fun b => match b with | 0 => some [.slot 3 (.int .i64), .slot 8 (.int .i64)] | _ => none, cut := fun _ => none, deep := fun _ => false }
theorem c_impl_Hash : Contract Try.prog 87 e_impl_Hash.sig e_impl_Hash.F :=
  den_is (E := v_impl_Hash) ⟨tab_ti, tab_eq⟩ (fns_cons c_impl_Mod (fns_nil _)) mixed Try.func87 (by kernel_rfl) (by kernel_rfl) (fun x => by kernel_rfl)

def s_impl_RootOf : Sig := { params := [.val false y24], res := [.val false y3] }
noncomputable def e_impl_RootOf : Entry := ⟨s_impl_RootOf, fun a => D.impl_RootOf a⟩
noncomputable def v_impl_RootOf (n : Nat) : Env := { ti := look tab, Γ := fns [(61, [], ⟨s_impl_RootOf, fun a => D.impl_RootOf_f n a⟩), (87, [], e_impl_Hash)], loop := fun _ => none, cut := fun _ => none, deep := fun _ => false }
theorem cf_impl_RootOf : ∀ n : Nat, Contract Try.prog 61 s_impl_RootOf (fun a => D.impl_RootOf_f n a)
  | 0 => ⟨⟨_, Try.func61, by kernel_rfl, by kernel_rfl⟩, fun a out w S lent cx vals hF => by cases hF⟩
  | n + 1 => have ih := cf_impl_RootOf n; den_is (E := v_impl_RootOf n) ⟨tab_ti, tab_eq⟩ (fns_cons ih (fns_cons c_impl_Hash (fns_nil _))) mixed Try.func61 (by kernel_rfl) (by kernel_rfl) (fun x => by kernel_rfl)
theorem c_impl_RootOf : Contract Try.prog 61 e_impl_RootOf.sig e_impl_RootOf.F := ⟨(cf_impl_RootOf 0).1, fun a => (cf_impl_RootOf (a.length + 1)).2 a⟩

def s_impl_SealRoot : Sig := { params := [.val false y26], res := [.val false y3] }
noncomputable def e_impl_SealRoot : Entry := ⟨s_impl_SealRoot, fun a => D.impl_SealRoot a⟩
noncomputable def v_impl_SealRoot : Env := { ti := look tab, Γ := fns [(61, [], e_impl_RootOf)], loop := fun b => match b with | 0 => some [.slot 3 (.own 3 y3 false), .slot 8 (.int .i64)] | _ => none, cut := fun _ => none, deep := fun _ => false }
theorem c_impl_SealRoot : Contract Try.prog 26 e_impl_SealRoot.sig e_impl_SealRoot.F :=
  den_is (E := v_impl_SealRoot) ⟨tab_ti, tab_eq⟩ (fns_cons c_impl_RootOf (fns_nil _)) mixed Try.func26 (by kernel_rfl) (by kernel_rfl) (fun x => by kernel_rfl)

def s_laws_eqLeaf : Sig := { params := [.val true y70, .val true y70], res := [.val false y4] }
noncomputable def e_laws_eqLeaf : Entry := ⟨s_laws_eqLeaf, fun a => D.laws_eqLeaf a.1 a.2⟩
noncomputable def v_laws_eqLeaf : Env := { ti := look tab, Γ := fns [], loop := fun _ => none, cut := fun _ => none, deep := fun _ => false }
theorem c_laws_eqLeaf : Contract Try.prog 41 e_laws_eqLeaf.sig e_laws_eqLeaf.F :=
  den_is (E := v_laws_eqLeaf) ⟨tab_ti, tab_eq⟩ (fns_nil _) mixed Try.func41 (by kernel_rfl) (by kernel_rfl) (fun x => by kernel_rfl)

def s_laws_eqLeafS : Sig := { params := [.val false y26, .val false y26], res := [.val false y4] }
noncomputable def e_laws_eqLeafS : Entry := ⟨s_laws_eqLeafS, fun a => D.laws_eqLeafS a.1 a.2⟩
noncomputable def v_laws_eqLeafS : Env := { ti := look tab, Γ := fns [(41, [], e_laws_eqLeaf)], loop := fun b => match b with | 0 => some [.slot 5 (.int .i64)] | _ => none, cut := fun _ => none, deep := fun _ => false }
theorem c_laws_eqLeafS : Contract Try.prog 14 e_laws_eqLeafS.sig e_laws_eqLeafS.F :=
  den_is (E := v_laws_eqLeafS) ⟨tab_ti, tab_eq⟩ (fns_cons c_laws_eqLeaf (fns_nil _)) mixed Try.func14 (by kernel_rfl) (by kernel_rfl) (fun x => by kernel_rfl)

def s_laws_FnExactSealRoot : Sig := { params := [.val false y22], res := [.val false y4] }
noncomputable def e_laws_FnExactSealRoot : Entry := ⟨s_laws_FnExactSealRoot, fun a => D.laws_FnExactSealRoot a⟩
noncomputable def v_laws_FnExactSealRoot : Env := { ti := look tab, Γ := fns [(9, [], e_laws_szLeafS), (11, [], e_laws_toLeafS), (25, [], e_spec_SealRoot), (26, [], e_impl_SealRoot), (14, [], e_laws_eqLeafS)], loop := fun _ => none, cut := fun _ => none, deep := fun _ => false }
theorem c_laws_FnExactSealRoot : Contract Try.prog 5 e_laws_FnExactSealRoot.sig e_laws_FnExactSealRoot.F :=
  den_is (E := v_laws_FnExactSealRoot) ⟨tab_ti, tab_eq⟩ (fns_cons c_laws_szLeafS (fns_cons c_laws_toLeafS (fns_cons c_spec_SealRoot (fns_cons c_impl_SealRoot (fns_cons c_laws_eqLeafS (fns_nil _)))))) mixed Try.func5 (by kernel_rfl) (by kernel_rfl) (fun x => by kernel_rfl)

theorem law_true (a : Tup (s_laws_FnExactSealRoot.params.map PTy.den)) (hok : argsOk Try.prog s_laws_FnExactSealRoot.params a) : D.laws_FnExactSealRoot a = some true := D.FnExactSealRoot_true a (Ty.ok_bd (P := Try.prog) (t := y22) (by kernel_rfl) hok.1)
theorem lifted (os : Os) (started : os.Started) (H : Type) (enc : TypeId × Value → H) :
    ReturnsInHanded {} Try.checked os 5 .any (Rows.fnExactSealRootSpec.pre6 enc Try.prog Try.f5 Rows.fnExactSealRootRow.domain false) (Rows.fnExactSealRootSpec.post enc Try.prog Try.f5 false true false false) := by
  refine returnsInHanded_of_change_sized (C := Try.checked) (by kernel_rfl) started (by kernel_rfl) Try.func5
    (ChangeSpec.witness6 (enc := enc) (C := Try.checked) false ⟨#[], #[.slice none 0 0], []⟩ 8 (by kernel_rfl) (by kernel_rfl) (by kernel_rfl) (by kernel_rfl)) ?_
  intro W base args ds gs before hval hW hcnd hsz _
  exact law_row (C := Try.checked) rfl c_laws_FnExactSealRoot (N := 8) (by kernel_rfl) (tb := 4) (by kernel_rfl) (by kernel_rfl) (by kernel_rfl) (by kernel_rfl) rfl
    (fun ds h => by
      have h : ds.length = 1 := h
      match ds, h with
      | [d0], _ => rfl)
    bulky_sizeOf (small := fun _ => True) (fun a ds hok _ _ => ⟨_, law_true a hok, rfl⟩) hval hW hsz trivial

theorem over : Rows.fnExactSealRootRow.holds Try.pinned (OpenSpec.ofChange Rows.fnExactSealRootSpec) :=
  OpenClaim.holds_of_wide 5 Try.f5 rfl rfl rfl rfl rfl rfl rfl ⟨rfl, rfl, rfl, rfl, rfl⟩ rfl rfl rfl rfl rfl (by kernel_rfl) Try.func5 (by kernel_rfl)
    (of_decide_eq_true (by kernel_rfl)) (by unfold Func.isWrapper; first | (rw [if_pos (by decide +kernel)]; kernel_rfl) | (rw [if_neg (by decide +kernel)]; exact ⟨rfl, rfl⟩))
    (fun os started H enc _ => lifted os started H enc)
end Go.Proofs.Ytggclcocablccab.SxFnExactSealRoot
namespace Go.Proofs.Ytggclcocablccab
theorem fnExactSealRoot_holds : Rows.FnExactSealRootSaid := SxFnExactSealRoot.over
end Go.Proofs.Ytggclcocablccab
