/- FnExactOldText returns true for every input, and each input reads as it did. No condition. -/
import Derived.Test.YtfipolbgkppdjaaDoorRows
import Derived.Test.YtfipolbgkppdjaaDoorPuFnExactOldText
import Derived.Test.YtfipolbgkppdjaaDoorEx
import Derived.WalkKit
import Derived.ProofKit
import Derived.ShutString
import Derived.SizedLaws
import Derived.Test.YtfipolbgkppdjaaDoorCards
import Derived.Test.YtfipolbgkppdjaaDoorTie
import Derived.SevenTiedAt
import Derived.JoinedCond
import Derived.Deep.DeepHandedRow
set_option linter.unusedVariables false
set_option maxRecDepth 100000
set_option maxHeartbeats 4000000
namespace Go.Proofs.YtfipolbgkppdjaaDoor.SxFnExactOldText
open Go Go.Sh Go.RowKit
-- the laid tables: the instance of Ex
def y3 : Ty := .int .i64
def y4 : Ty := .bool
def y5 : Ty := .int .u8
def y9 : Ty := .str
def y32 : Ty := .slice 3 y3
def y42 : Ty := .slice 32 y32
def y53 : Ty := .slice 9 y9
def y58 : Ty := .slice 5 y5
def tab : List (TypeId × TI) := [(3, { size := 1, bytes := 8, agg := false, ty := some y3 }),
  (4, { size := 1, bytes := 1, agg := false, ty := some y4 }),
  (5, { size := 1, bytes := 1, agg := false, ty := some y5 }),
  (9, { size := 1, bytes := 16, agg := false, ty := some y9 }),
  (32, { size := 1, bytes := 24, agg := false, ty := some y32, elem := some 3 }),
  (42, { size := 1, bytes := 24, agg := false, ty := some y42, elem := some 32 }),
  (53, { size := 1, bytes := 24, agg := false, ty := some y53, elem := some 9 }),
  (58, { size := 1, bytes := 24, agg := false, ty := some y58, elem := some 5 })]
def look : List (TypeId × TI) → TypeId → Option TI
  | [], _ => none
  | (k, i) :: r, t => if Nat.beq t k = true then some i else look r t
theorem look_ok {P : Program} : ∀ {l : List (TypeId × TI)}, (l.all fun p => tiOk P p.1 p.2) = true → ∀ t i, look l t = some i → tiOk P t i = true
  | [], _, t, i, h => by simp [look] at h
  | (k, j) :: r, h0, t, i, h => by
    simp only [List.all_cons, Bool.and_eq_true] at h0
    simp only [look] at h
    split at h
    · rename_i hk
      simp only [Option.some.injEq] at h
      have := Nat.eq_of_beq_eq_true hk
      subst this; subst h; exact h0.1
    · exact look_ok h0.2 t i h
theorem look_eq {P : Program} : ∀ {l : List (TypeId × TI)}, (l.all fun p => !p.2.eq || eqTop P p.1 p.2.ty) = true → ∀ t i, look l t = some i → i.eq = true → ∀ ty, i.ty = some ty → EqLaw P t ty.zero
  | [], _, t, i, h => by simp [look] at h
  | (k, j) :: r, h0, t, i, h => by
    simp only [List.all_cons, Bool.and_eq_true, Bool.or_eq_true, Bool.not_eq_true'] at h0
    simp only [look] at h
    split at h
    · rename_i hk
      simp only [Option.some.injEq] at h
      have := Nat.eq_of_beq_eq_true hk
      subst this; subst h
      intro he
      exact eqLaw_of (h0.1.resolve_left (by simp [he]))
    · exact look_eq h0.2 t i h
def same : List Nat → List Nat → Bool
  | [], [] => true
  | a :: x, b :: y => Nat.beq a b && same x y
  | _, _ => false
theorem same_eq : ∀ {x y : List Nat}, same x y = true → x = y
  | [], [], _ => rfl
  | a :: x, b :: y, h => by
    simp only [same, Bool.and_eq_true] at h
    rw [Nat.eq_of_beq_eq_true h.1, same_eq h.2]
  | [], _ :: _, h => by simp [same] at h
  | _ :: _, [], h => by simp [same] at h
def fns : List (FuncId × List FuncId × Entry) → FuncId → List FuncId → Option Entry
  | [], _, _ => none
  | (k, c, e) :: r, f, fs => if (Nat.beq f k && same fs c) = true then some e else fns r f fs
theorem fns_nil (P : Program) : ∀ f fs en, fns [] f fs = some en → Contract P f en.sig en.F := fun f fs en h => by simp [fns] at h
theorem fns_cons {P : Program} {k : FuncId} {c : List FuncId} {e : Entry} {r : List (FuncId × List FuncId × Entry)} (hk : Contract P k e.sig e.F) (hr : ∀ f fs en, fns r f fs = some en → Contract P f en.sig en.F) : ∀ f fs en, fns ((k, c, e) :: r) f fs = some en → Contract P f en.sig en.F := fun f fs en h => by
  simp only [fns] at h
  split at h
  · rename_i hf
    simp only [Bool.and_eq_true] at hf
    simp only [Option.some.injEq] at h
    have := Nat.eq_of_beq_eq_true hf.1
    subst this; subst h; exact hk
  · exact hr f fs en h

theorem tab_ti : ∀ t i, look tab t = some i → tiOk Tryd.prog t i = true := look_ok (by kernel_rfl)
theorem tab_eq : ∀ t i, look tab t = some i → i.eq = true → ∀ ty, i.ty = some ty → EqLaw Tryd.prog t ty.zero := look_eq (by kernel_rfl)
theorem mixed : Tryd.prog.follows .mixedOrders = true := by kernel_rfl
def s_laws_szIntS : Sig := { params := [.val false y32, .val false y3], res := [.val false y3] }
noncomputable def e_laws_szIntS : Entry := ⟨s_laws_szIntS, fun a => D.laws_szIntS a.1 a.2⟩
noncomputable def v_laws_szIntS : Env := { ti := look tab, Γ := fns [], loop := fun _ => none, cut := fun _ => none, deep := fun _ => false }
theorem c_laws_szIntS : Contract Tryd.prog 47 e_laws_szIntS.sig e_laws_szIntS.F :=
  den_is (E := v_laws_szIntS) ⟨tab_ti, tab_eq⟩ (fns_nil _) mixed Tryd.func47 (by kernel_rfl) (by kernel_rfl) (fun x => by kernel_rfl)

def s_laws_szIntSS : Sig := { params := [.val false y42, .val false y3], res := [.val false y3] }
noncomputable def e_laws_szIntSS : Entry := ⟨s_laws_szIntSS, fun a => D.laws_szIntSS a.1 a.2⟩
noncomputable def v_laws_szIntSS : Env := { ti := look tab, Γ := fns [(47, [], e_laws_szIntS)], loop := fun b => match b with | 0 => some [.slot 1 (.int .i64), .slot 5 (.int .i64)] | _ => none, cut := fun _ => none, deep := fun _ => false }
theorem c_laws_szIntSS : Contract Tryd.prog 18 e_laws_szIntSS.sig e_laws_szIntSS.F :=
  den_is (E := v_laws_szIntSS) ⟨tab_ti, tab_eq⟩ (fns_cons c_laws_szIntS (fns_nil _)) mixed Tryd.func18 (by kernel_rfl) (by kernel_rfl) (fun x => by kernel_rfl)

def s_laws_toIntS : Sig := { params := [.val false y32], res := [.row 3 y3 false] }
noncomputable def e_laws_toIntS : Entry := ⟨s_laws_toIntS, fun a => D.laws_toIntS a⟩
noncomputable def v_laws_toIntS : Env := { ti := look tab, Γ := fns [], loop := fun b => match b with | 0 => some [.slot 4 (.int .i64), .vec 3 3 y3 false] | _ => none, cut := fun _ => none, deep := fun _ => false }
theorem c_laws_toIntS : Contract Tryd.prog 49 e_laws_toIntS.sig e_laws_toIntS.F :=
  den_is (E := v_laws_toIntS) ⟨tab_ti, tab_eq⟩ (fns_nil _) mixed Tryd.func49 (by kernel_rfl) (by kernel_rfl) (fun x => by kernel_rfl)

def s_laws_toIntSS : Sig := { params := [.val false y42], res := [.row 32 y32 true] }
noncomputable def e_laws_toIntSS : Entry := ⟨s_laws_toIntSS, fun a => D.laws_toIntSS a⟩
noncomputable def v_laws_toIntSS : Env := { ti := look tab, Γ := fns [(49, [], e_laws_toIntS)], loop := fun b => match b with | 0 => some [.slot 4 (.int .i64), .vec 3 32 y32 true] | _ => none, cut := fun _ => none, deep := fun t => Nat.beq t 7 }
theorem c_laws_toIntSS : Contract Tryd.prog 20 e_laws_toIntSS.sig e_laws_toIntSS.F :=
  den_is (E := v_laws_toIntSS) ⟨tab_ti, tab_eq⟩ (fns_cons c_laws_toIntS (fns_nil _)) mixed Tryd.func20 (by kernel_rfl) (by kernel_rfl) (fun x => by kernel_rfl)

def s_spec_FormatInt : Sig := { params := [.val false y3], res := [.val false y9] }
noncomputable def e_spec_FormatInt : Entry := ⟨s_spec_FormatInt, fun a => D.spec_FormatInt a⟩
noncomputable def v_spec_FormatInt : Env := { ti := look tab, Γ := fns [], loop := fun b => match b with | 0 => some [.slot 3 (.str), .slot 4 (.int .i64)] | _ => none, cut := fun _ => none, deep := fun _ => false }
theorem c_spec_FormatInt : Contract Tryd.prog 41 e_spec_FormatInt.sig e_spec_FormatInt.F :=
  den_is (E := v_spec_FormatInt) ⟨tab_ti, tab_eq⟩ (fns_nil _) mixed Tryd.func41 (by kernel_rfl) (by kernel_rfl) (fun x => by kernel_rfl)

def s_spec_OldText : Sig := { params := [.val false y42], res := [.val false y9] }
noncomputable def e_spec_OldText : Entry := ⟨s_spec_OldText, fun a => D.spec_OldText a⟩
noncomputable def v_spec_OldText : Env := { ti := look tab, Γ := fns [(41, [], e_spec_FormatInt)], loop := fun b => match b with | 0 => some [.slot 3 (.str), .slot 4 (.int .i64)] | 2 => some [.slot 3 (.str), .slot 5 (.int .i64)] | _ => none, cut := fun _ => none, deep := fun _ => false }
theorem c_spec_OldText : Contract Tryd.prog 19 e_spec_OldText.sig e_spec_OldText.F :=
  den_is (E := v_spec_OldText) ⟨tab_ti, tab_eq⟩ (fns_cons c_spec_FormatInt (fns_nil _)) mixed Tryd.func19 (by kernel_rfl) (by kernel_rfl) (fun x => by kernel_rfl)

def s_strconv_Itoa : Sig := { params := [.val false y3], res := [.val false y9] }
noncomputable def e_strconv_Itoa : Entry := ⟨s_strconv_Itoa, fun a => D.strconv_Itoa a⟩
theorem c_strconv_Itoa : Contract Tryd.prog 70 e_strconv_Itoa.sig e_strconv_Itoa.F := Eq.mp (by kernel_rfl) (Go.Proofs.YtfipolbgkppdjaaDoor.Ex.itoa_is)

def s_impl_FormatInt : Sig := { params := [.val false y3], res := [.val false y9] }
noncomputable def e_impl_FormatInt : Entry := ⟨s_impl_FormatInt, fun a => D.impl_FormatInt a⟩
noncomputable def v_impl_FormatInt : Env := { ti := look tab, Γ := fns [(70, [], e_strconv_Itoa)], loop := fun _ => none, cut := fun _ => none, deep := fun _ => false }
theorem c_impl_FormatInt : Contract Tryd.prog 46 e_impl_FormatInt.sig e_impl_FormatInt.F :=
  den_is (E := v_impl_FormatInt) ⟨tab_ti, tab_eq⟩ (fns_cons c_strconv_Itoa (fns_nil _)) mixed Tryd.func46 (by kernel_rfl) (by kernel_rfl) (fun x => by kernel_rfl)

def s_strings_Join : Sig := { params := [.val false y53, .val false y9], res := [.val false y9] }
noncomputable def e_strings_Join : Entry := ⟨s_strings_Join, fun a => D.strings_Join a.1 a.2⟩
theorem c_strings_Join : Contract Tryd.prog 53 e_strings_Join.sig e_strings_Join.F := Eq.mp (by kernel_rfl) (Go.Proofs.YtfipolbgkppdjaaDoor.Ex.join_is)

def s_impl_joinWith : Sig := { params := [.val false y32, .val false y9], res := [.val false y9] }
noncomputable def e_impl_joinWith : Entry := ⟨s_impl_joinWith, fun a => D.impl_joinWith a.1 a.2⟩
noncomputable def v_impl_joinWith : Env := { ti := look tab, Γ := fns [(46, [], e_impl_FormatInt), (53, [], e_strings_Join)], loop := fun b => match b with | 0 => some [.slot 5 (.own 9 y9 false), .slot 10 (.int .i64)] | _ => none, cut := fun _ => none, deep := fun _ => false }
theorem c_impl_joinWith : Contract Tryd.prog 52 e_impl_joinWith.sig e_impl_joinWith.F :=
  den_is (E := v_impl_joinWith) ⟨tab_ti, tab_eq⟩ (fns_cons c_impl_FormatInt (fns_cons c_strings_Join (fns_nil _))) mixed Tryd.func52 (by kernel_rfl) (by kernel_rfl) (fun x => by kernel_rfl)

def s_impl_OldText : Sig := { params := [.val false y42], res := [.val false y9] }
noncomputable def e_impl_OldText : Entry := ⟨s_impl_OldText, fun a => D.impl_OldText a⟩
noncomputable def v_impl_OldText : Env := { ti := look tab, Γ := fns [(52, [], e_impl_joinWith), (53, [], e_strings_Join)], loop := fun b => match b with | 0 => some [.slot 3 (.own 9 y9 false), .slot 11 (.int .i64)] | _ => none, cut := fun _ => none, deep := fun _ => false }
theorem c_impl_OldText : Contract Tryd.prog 21 e_impl_OldText.sig e_impl_OldText.F :=
  den_is (E := v_impl_OldText) ⟨tab_ti, tab_eq⟩ (fns_cons c_impl_joinWith (fns_cons c_strings_Join (fns_nil _))) mixed Tryd.func21 (by kernel_rfl) (by kernel_rfl) (fun x => by kernel_rfl)

def s_laws_eqIntS : Sig := { params := [.val false y32, .val false y32], res := [.val false y4] }
noncomputable def e_laws_eqIntS : Entry := ⟨s_laws_eqIntS, fun a => D.laws_eqIntS a.1 a.2⟩
noncomputable def v_laws_eqIntS : Env := { ti := look tab, Γ := fns [], loop := fun b => match b with | 0 => some [.slot 5 (.int .i64)] | _ => none, cut := fun _ => none, deep := fun _ => false }
theorem c_laws_eqIntS : Contract Tryd.prog 50 e_laws_eqIntS.sig e_laws_eqIntS.F :=
  den_is (E := v_laws_eqIntS) ⟨tab_ti, tab_eq⟩ (fns_nil _) mixed Tryd.func50 (by kernel_rfl) (by kernel_rfl) (fun x => by kernel_rfl)

def s_laws_eqIntSS : Sig := { params := [.val false y42, .val false y42], res := [.val false y4] }
noncomputable def e_laws_eqIntSS : Entry := ⟨s_laws_eqIntSS, fun a => D.laws_eqIntSS a.1 a.2⟩
noncomputable def v_laws_eqIntSS : Env := { ti := look tab, Γ := fns [(50, [], e_laws_eqIntS)], loop := fun b => match b with | 0 => some [.slot 5 (.int .i64)] | _ => none, cut := fun _ => none, deep := fun _ => false }
theorem c_laws_eqIntSS : Contract Tryd.prog 22 e_laws_eqIntSS.sig e_laws_eqIntSS.F :=
  den_is (E := v_laws_eqIntSS) ⟨tab_ti, tab_eq⟩ (fns_cons c_laws_eqIntS (fns_nil _)) mixed Tryd.func22 (by kernel_rfl) (by kernel_rfl) (fun x => by kernel_rfl)

def s_laws_FnExactOldText : Sig := { params := [.val false y42], res := [.val false y4] }
noncomputable def e_laws_FnExactOldText : Entry := ⟨s_laws_FnExactOldText, fun a => D.laws_FnExactOldText a⟩
noncomputable def v_laws_FnExactOldText : Env := { ti := look tab, Γ := fns [(18, [], e_laws_szIntSS), (20, [], e_laws_toIntSS), (19, [], e_spec_OldText), (21, [], e_impl_OldText), (22, [], e_laws_eqIntSS)], loop := fun _ => none, cut := fun _ => none, deep := fun _ => false }
theorem c_laws_FnExactOldText : Contract Tryd.prog 5 e_laws_FnExactOldText.sig e_laws_FnExactOldText.F :=
  den_is (E := v_laws_FnExactOldText) ⟨tab_ti, tab_eq⟩ (fns_cons c_laws_szIntSS (fns_cons c_laws_toIntSS (fns_cons c_spec_OldText (fns_cons c_impl_OldText (fns_cons c_laws_eqIntSS (fns_nil _)))))) mixed Tryd.func5 (by kernel_rfl) (by kernel_rfl) (fun x => by kernel_rfl)

theorem law_true (a : Tup (s_laws_FnExactOldText.params.map PTy.den)) (hok : argsOk Tryd.prog s_laws_FnExactOldText.params a) : D.laws_FnExactOldText a = some true := D.FnExactOldText_true a (Ty.ok_bd (P := Tryd.prog) (t := y42) (by kernel_rfl) hok.1)
theorem witness_row (os : Os) {H : Type} (enc : TypeId × Value → H) :
    (OpenSpec.ofChange Rows.fnExactOldTextSpec).preRow enc Tryd.prog Tryd.f5 Rows.fnExactOldTextRow.domain false Rows.fnExactOldTextRow.laid ((Ex.laidWorld os).forCall (fun _ _ => 0) ⟨#[], #[.slice none 0 0], []⟩).memory #[.slice none 0 0] := by
  have hw : (DataW.whole enc Tryd.prog ((Ex.laidWorld os).forCall (fun _ _ => 0) ⟨#[], #[.slice none 0 0], []⟩).memory Tryd.f5.params.toList (OpenSpec.ofChange Rows.fnExactOldTextSpec).vars false (#[.slice none 0 0] : Array Value).toList 8).map (fun x => (x.1, x.2.1)) =
      some ([.nil], []) := by kernel_rfl
  obtain ⟨⟨x1, x2, x3⟩, hx, hx1⟩ := Option.map_eq_some_iff.1 hw
  simp only [Prod.mk.injEq] at hx1
  obtain ⟨rfl, rfl⟩ := hx1
  exact OpenSpec.preRow_of_cond 8 hx (by kernel_rfl) (fun k hk => by cases hk) (by kernel_rfl) (Ex.laid_met os _)
theorem lifted (os : Os) (started : os.Started) (H : Type) (enc : TypeId × Value → H) (F0 : Stop.Interp) :
    ReturnsInHanded {} Tryd.checked os 5 .any ((OpenSpec.ofChange Rows.fnExactOldTextSpec).preRow enc Tryd.prog Tryd.f5 Rows.fnExactOldTextRow.domain false Rows.fnExactOldTextRow.laid) (((OpenSpec.ofChange Rows.fnExactOldTextSpec).at F0).post enc Tryd.prog Tryd.f5 false true false false) := by
  refine returnsInHanded_of_row (C := Tryd.checked) (s := OpenSpec.ofChange Rows.fnExactOldTextSpec) (by kernel_rfl) started (by kernel_rfl) Tryd.func5
    (witness_row_at (enc := enc) (C := Tryd.checked) false (Ex.laidWorld os) #[.slice none 0 0] rfl (by kernel_rfl) (by kernel_rfl) (by kernel_rfl) (witness_row os enc)) ?_
  intro W base args ds gs before hval hW hcnd _ hsz hL hsh _
  exact law_row (C := Tryd.checked) rfl c_laws_FnExactOldText (N := 8) (by kernel_rfl) (tb := 4) (by kernel_rfl) (by kernel_rfl) (by kernel_rfl) (by kernel_rfl) rfl
    (fun ds h => by
      have h : ds.length = 1 := h
      match ds, h with
      | [d0], _ => rfl)
    bulky_sizeOf (small := fun _ => True) (fun a ds hok _ _ => ⟨_, law_true a hok, rfl⟩) hval hW hsz trivial (Ex.tabs_ok hL hsh)

theorem over : Rows.FnExactOldTextSaid :=
  OpenClaim.holds_of_cond 5 Tryd.f5 rfl rfl rfl rfl rfl rfl rfl ⟨rfl, rfl, rfl, rfl, rfl⟩ rfl rfl rfl rfl rfl (by kernel_rfl) Tryd.func5 (by kernel_rfl)
    (of_decide_eq_true (by kernel_rfl)) (by unfold Func.isWrapper; first | (rw [if_pos (by decide +kernel)]; kernel_rfl) | (rw [if_neg (by decide +kernel)]; exact ⟨rfl, rfl⟩))
    (fun os started H enc _ F0 => by rw [OpenClaim.pre_eq_preRow]; exact lifted os started H enc F0)
theorem card : Rows.FnExactOldTextCardSaid :=
  Claim7.holds_tied_plain_at .later [] [.data, .data, .data] true Rows.fnExactOldTextCard.stood.harness false
    over (fun _ h => by cases h) (by kernel_rfl) (fun _ h => by cases h) fnExactOldText_row_tie rfl ⟨rfl, rfl⟩ (by kernel_rfl) rfl
    (fun f fn hf hfn => by
      obtain rfl : f = 5 := Option.some.inj ((show Tryd.prog.funcNamed "loop.example/g03002/laws.FnExactOldText" = some 5 by kernel_rfl).symm.trans hf) |>.symm
      obtain rfl : fn = Tryd.f5 := (Option.some.inj (Tryd.func5.symm.trans hfn)).symm
      exact ⟨by kernel_rfl, fun j t ht => by
        have hm : t ∈ [42] := by
          have := Array.mem_of_getElem? ht
          exact List.mem_of_elem_eq_true (by
            have h2 : t ∈ Tryd.f5.params.toList := by simpa using this
            rw [show Tryd.f5.params.toList = [42] by kernel_rfl] at h2
            exact List.elem_eq_true_of_mem h2)
        have hall : ([42].all fun u => !Tryd.prog.wantsStandIn u) = true := by kernel_rfl
        exact (show Tryd.prog.wantsStandIn t = false by simpa using List.all_eq_true.1 hall t hm)⟩)
    (by kernel_rfl)
end Go.Proofs.YtfipolbgkppdjaaDoor.SxFnExactOldText
namespace Go.Proofs.YtfipolbgkppdjaaDoor
theorem fnExactOldText_holds : Rows.FnExactOldTextCardSaid := SxFnExactOldText.card
end Go.Proofs.YtfipolbgkppdjaaDoor
