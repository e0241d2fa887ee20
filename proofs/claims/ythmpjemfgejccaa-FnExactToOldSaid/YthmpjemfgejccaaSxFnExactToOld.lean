/- FnExactToOld returns true for every input, and each input reads as it did. No condition. -/
import Derived.Test.YthmpjemfgejccaaRows
import Derived.Test.YthmpjemfgejccaaPuFnExactToOld
import Derived.WalkKit
import Derived.ProofKit
import Derived.ShutString
import Derived.SizedLaws
set_option linter.unusedVariables false
set_option maxRecDepth 100000
set_option maxHeartbeats 4000000
namespace Go.Proofs.Ythmpjemfgejccaa.SxFnExactToOld
open Go Go.Sh Go.RowKit
def y3 : Ty := .int .i64
def y4 : Ty := .bool
def y24 : Ty := .slice 3 y3
def y34 : Ty := .slice 24 y24
def y93 : Ty := .pair y3 (.pair y3 y3)
def y158 : Ty := .pair y3 (.pair y93 y3)
def y37 : Ty := .slice 158 y158
def y85 : Ty := .pair y3 (.pair y3 y3)
def y170 : Ty := .pair y3 (.pair y85 y3)
def y49 : Ty := .slice 170 y170
def tab : List (TypeId × TI) := [(3, { size := 1, bytes := 8, agg := false, ty := some y3 }),
  (4, { size := 1, bytes := 1, agg := false, ty := some y4 }),
  (24, { size := 1, bytes := 24, agg := false, ty := some y24, elem := some 3 }),
  (34, { size := 1, bytes := 24, agg := false, ty := some y34, elem := some 24 }),
  (93, { size := 3, bytes := 24, agg := true, ty := some y93, fields := [(0, 3), (1, 3), (2, 3)], eq := true }),
  (158, { size := 5, bytes := 40, agg := true, ty := some y158, fields := [(0, 3), (1, 93), (4, 3)] }),
  (37, { size := 1, bytes := 24, agg := false, ty := some y37, elem := some 158 }),
  (85, { size := 3, bytes := 24, agg := true, ty := some y85, fields := [(0, 3), (1, 3), (2, 3)] }),
  (170, { size := 5, bytes := 40, agg := true, ty := some y170, fields := [(0, 3), (1, 85), (4, 3)] }),
  (49, { size := 1, bytes := 24, agg := false, ty := some y49, elem := some 170 })]
def look : List (TypeId × TI) → TypeId → Option TI
  | [], _ => none
  | (k, i) :: r, t => if Nat.beq t k = true then some i else look r t
theorem look_ok {P : Program} : ∀ {l : List (TypeId × TI)}, (l.all fun p => tiOk P p.1 p.2) = true → ∀ t i, look l t = some i → tiOk P t i = true
  | [], _, t, i, h => by simp [look] at h
  | (k, j) :: r, h0, t, i, h => by
    simp only [List.all_cons, Bool.and_eq_true] at h0
    simp only [look] at h
    split at h
    · rename_i hk
      simp only [Option.some.injEq] at h
      have := Nat.eq_of_beq_eq_true hk
      subst this; subst h; exact h0.1
    · exact look_ok h0.2 t i h
theorem look_eq {P : Program} : ∀ {l : List (TypeId × TI)}, (l.all fun p => !p.2.eq || eqTop P p.1 p.2.ty) = true → ∀ t i, look l t = some i → i.eq = true → ∀ ty, i.ty = some ty → EqLaw P t ty.zero
  | [], _, t, i, h => by simp [look] at h
  | (k, j) :: r, h0, t, i, h => by
    simp only [List.all_cons, Bool.and_eq_true, Bool.or_eq_true, Bool.not_eq_true'] at h0
    simp only [look] at h
    split at h
    · rename_i hk
      simp only [Option.some.injEq] at h
      have := Nat.eq_of_beq_eq_true hk
      subst this; subst h
      intro he
      exact eqLaw_of (h0.1.resolve_left (by simp [he]))
    · exact look_eq h0.2 t i h
def same : List Nat → List Nat → Bool
  | [], [] => true
  | a :: x, b :: y => Nat.beq a b && same x y
  | _, _ => false
theorem same_eq : ∀ {x y : List Nat}, same x y = true → x = y
  | [], [], _ => rfl
  | a :: x, b :: y, h => by
    simp only [same, Bool.and_eq_true] at h
    rw [Nat.eq_of_beq_eq_true h.1, same_eq h.2]
  | [], _ :: _, h => by simp [same] at h
  | _ :: _, [], h => by simp [same] at h
def fns : List (FuncId × List FuncId × Entry) → FuncId → List FuncId → Option Entry
  | [], _, _ => none
  | (k, c, e) :: r, f, fs => if (Nat.beq f k && same fs c) = true then some e else fns r f fs
theorem fns_nil (P : Program) : ∀ f fs en, fns [] f fs = some en → Contract P f en.sig en.F := fun f fs en h => by simp [fns] at h
theorem fns_cons {P : Program} {k : FuncId} {c : List FuncId} {e : Entry} {r : List (FuncId × List FuncId × Entry)} (hk : Contract P k e.sig e.F) (hr : ∀ f fs en, fns r f fs = some en → Contract P f en.sig en.F) : ∀ f fs en, fns ((k, c, e) :: r) f fs = some en → Contract P f en.sig en.F := fun f fs en h => by
  simp only [fns] at h
  split at h
  · rename_i hf
    simp only [Bool.and_eq_true] at hf
    simp only [Option.some.injEq] at h
    have := Nat.eq_of_beq_eq_true hf.1
    subst this; subst h; exact hk
  · exact hr f fs en h

theorem tab_ti : ∀ t i, look tab t = some i → tiOk Try.prog t i = true := look_ok (by kernel_rfl)
theorem tab_eq : ∀ t i, look tab t = some i → i.eq = true → ∀ ty, i.ty = some ty → EqLaw Try.prog t ty.zero := look_eq (by kernel_rfl)
theorem mixed : Try.prog.follows .mixedOrders = true := by kernel_rfl
def s_laws_szEntryS : Sig := { params := [.val false y49, .val false y3], res := [.val false y3] }
noncomputable def e_laws_szEntryS : Entry := ⟨s_laws_szEntryS, fun a => D.laws_szEntryS a.1 a.2⟩
noncomputable def v_laws_szEntryS : Env := { ti := look tab, Γ := fns [], loop := fun _ => none, cut := fun _ => none, deep := fun _ => false }
theorem c_laws_szEntryS : Contract Try.prog 35 e_laws_szEntryS.sig e_laws_szEntryS.F :=
  den_is (E := v_laws_szEntryS) ⟨tab_ti, tab_eq⟩ (fns_nil _) mixed Try.func35 (by kernel_rfl) (by kernel_rfl) (fun x => by kernel_rfl)

def s_laws_toAddress : Sig := { params := [.val true y85], res := [.val true y93] }
noncomputable def e_laws_toAddress : Entry := ⟨s_laws_toAddress, fun a => D.laws_toAddress a⟩
noncomputable def v_laws_toAddress : Env := { ti := look tab, Γ := fns [], loop := fun _ => none, cut := fun _ => none, deep := fun _ => false }
theorem c_laws_toAddress : Contract Try.prog 60 e_laws_toAddress.sig e_laws_toAddress.F :=
  den_is (E := v_laws_toAddress) ⟨tab_ti, tab_eq⟩ (fns_nil _) mixed Try.func60 (by kernel_rfl) (by kernel_rfl) (fun x => by kernel_rfl)

def s_laws_toEntry : Sig := { params := [.val true y170], res := [.val true y158] }
noncomputable def e_laws_toEntry : Entry := ⟨s_laws_toEntry, fun a => D.laws_toEntry a⟩
noncomputable def v_laws_toEntry : Env := { ti := look tab, Γ := fns [(60, [], e_laws_toAddress)], loop := fun _ => none, cut := fun _ => none, deep := fun _ => false }
theorem c_laws_toEntry : Contract Try.prog 120 e_laws_toEntry.sig e_laws_toEntry.F :=
  den_is (E := v_laws_toEntry) ⟨tab_ti, tab_eq⟩ (fns_cons c_laws_toAddress (fns_nil _)) mixed Try.func120 (by kernel_rfl) (by kernel_rfl) (fun x => by kernel_rfl)

def s_laws_toEntryS : Sig := { params := [.val false y49], res := [.row 158 y158 false] }
noncomputable def e_laws_toEntryS : Entry := ⟨s_laws_toEntryS, fun a => D.laws_toEntryS a⟩
noncomputable def v_laws_toEntryS : Env := { ti := look tab, Γ := fns [(120, [], e_laws_toEntry)], loop := fun b => match b with | 0 => some [.slot 4 (.int .i64), .vec 3 158 y158 false] | _ => none, cut := fun _ => none, deep := fun _ => false }
theorem c_laws_toEntryS : Contract Try.prog 37 e_laws_toEntryS.sig e_laws_toEntryS.F :=
  den_is (E := v_laws_toEntryS) ⟨tab_ti, tab_eq⟩ (fns_cons c_laws_toEntry (fns_nil _)) mixed Try.func37 (by kernel_rfl) (by kernel_rfl) (fun x => by kernel_rfl)

def s_spec_ToOld : Sig := { params := [.val false y37], res := [.row 24 y24 true] }
noncomputable def e_spec_ToOld : Entry := ⟨s_spec_ToOld, fun a => D.spec_ToOld a⟩
noncomputable def v_spec_ToOld : Env := { ti := look tab, Γ := fns [], loop := fun b => match b with | 0 => some [.slot 3 (.own 24 y24 true), .slot 4 (.int .i64)] | _ => none, cut := fun _ => none, deep := fun t => Nat.beq t 5 || Nat.beq t 24 }
theorem c_spec_ToOld : Contract Try.prog 36 e_spec_ToOld.sig e_spec_ToOld.F :=
  den_is (E := v_spec_ToOld) ⟨tab_ti, tab_eq⟩ (fns_nil _) mixed Try.func36 (by kernel_rfl) (by kernel_rfl) (fun x => by kernel_rfl)

def s_impl_ToOld : Sig := { params := [.val false y37], res := [.row 24 y24 true] }
noncomputable def e_impl_ToOld : Entry := ⟨s_impl_ToOld, fun a => D.impl_ToOld a⟩
noncomputable def v_impl_ToOld : Env := { ti := look tab, Γ := fns [], loop := fun b => match b with | 0 => some [.slot 3 (.own 24 y24 true), .slot 8 (.int .i64)] | _ => none, cut := fun _ => none, deep := fun t => Nat.beq t 18 }
theorem c_impl_ToOld : Contract Try.prog 38 e_impl_ToOld.sig e_impl_ToOld.F :=
  den_is (E := v_impl_ToOld) ⟨tab_ti, tab_eq⟩ (fns_nil _) mixed Try.func38 (by kernel_rfl) (by kernel_rfl) (fun x => by kernel_rfl)

def s_laws_eqIntS : Sig := { params := [.val false y24, .val false y24], res := [.val false y4] }
noncomputable def e_laws_eqIntS : Entry := ⟨s_laws_eqIntS, fun a => D.laws_eqIntS a.1 a.2⟩
noncomputable def v_laws_eqIntS : Env := { ti := look tab, Γ := fns [], loop := fun b => match b with | 0 => some [.slot 5 (.int .i64)] | _ => none, cut := fun _ => none, deep := fun _ => false }
theorem c_laws_eqIntS : Contract Try.prog 17 e_laws_eqIntS.sig e_laws_eqIntS.F :=
  den_is (E := v_laws_eqIntS) ⟨tab_ti, tab_eq⟩ (fns_nil _) mixed Try.func17 (by kernel_rfl) (by kernel_rfl) (fun x => by kernel_rfl)

def s_laws_eqIntSS : Sig := { params := [.val false y34, .val false y34], res := [.val false y4] }
noncomputable def e_laws_eqIntSS : Entry := ⟨s_laws_eqIntSS, fun a => D.laws_eqIntSS a.1 a.2⟩
noncomputable def v_laws_eqIntSS : Env := { ti := look tab, Γ := fns [(17, [], e_laws_eqIntS)], loop := fun b => match b with | 0 => some [.slot 5 (.int .i64)] | _ => none, cut := fun _ => none, deep := fun _ => false }
theorem c_laws_eqIntSS : Contract Try.prog 30 e_laws_eqIntSS.sig e_laws_eqIntSS.F :=
  den_is (E := v_laws_eqIntSS) ⟨tab_ti, tab_eq⟩ (fns_cons c_laws_eqIntS (fns_nil _)) mixed Try.func30 (by kernel_rfl) (by kernel_rfl) (fun x => by kernel_rfl)

def s_laws_eqAddress : Sig := { params := [.val true y93, .val true y93], res := [.val false y4] }
noncomputable def e_laws_eqAddress : Entry := ⟨s_laws_eqAddress, fun a => D.laws_eqAddress a.1 a.2⟩
noncomputable def v_laws_eqAddress : Env := { ti := look tab, Γ := fns [], loop := fun _ => none, cut := fun _ => none, deep := fun _ => false }
theorem c_laws_eqAddress : Contract Try.prog 161 e_laws_eqAddress.sig e_laws_eqAddress.F :=
  den_is (E := v_laws_eqAddress) ⟨tab_ti, tab_eq⟩ (fns_nil _) mixed Try.func161 (by kernel_rfl) (by kernel_rfl) (fun x => by kernel_rfl)

def s_laws_eqEntry : Sig := { params := [.val true y158, .val true y158], res := [.val false y4] }
noncomputable def e_laws_eqEntry : Entry := ⟨s_laws_eqEntry, fun a => D.laws_eqEntry a.1 a.2⟩
noncomputable def v_laws_eqEntry : Env := { ti := look tab, Γ := fns [(161, [], e_laws_eqAddress)], loop := fun _ => none, cut := fun _ => none, deep := fun _ => false }
theorem c_laws_eqEntry : Contract Try.prog 118 e_laws_eqEntry.sig e_laws_eqEntry.F :=
  den_is (E := v_laws_eqEntry) ⟨tab_ti, tab_eq⟩ (fns_cons c_laws_eqAddress (fns_nil _)) mixed Try.func118 (by kernel_rfl) (by kernel_rfl) (fun x => by kernel_rfl)

def s_laws_eqEntryS : Sig := { params := [.val false y37, .val false y37], res := [.val false y4] }
noncomputable def e_laws_eqEntryS : Entry := ⟨s_laws_eqEntryS, fun a => D.laws_eqEntryS a.1 a.2⟩
noncomputable def v_laws_eqEntryS : Env := { ti := look tab, Γ := fns [(118, [], e_laws_eqEntry)], loop := fun b => match b with | 0 => some [.slot 5 (.int .i64)] | _ => none, cut := fun _ => none, deep := fun _ => false }
theorem c_laws_eqEntryS : Contract Try.prog 28 e_laws_eqEntryS.sig e_laws_eqEntryS.F :=
  den_is (E := v_laws_eqEntryS) ⟨tab_ti, tab_eq⟩ (fns_cons c_laws_eqEntry (fns_nil _)) mixed Try.func28 (by kernel_rfl) (by kernel_rfl) (fun x => by kernel_rfl)

def s_laws_markEntryS : Sig := { params := [.io 158 y158, .val false y3], res := [.val false y3] }
noncomputable def e_laws_markEntryS : Entry := ⟨s_laws_markEntryS, fun a => D.laws_markEntryS a.1 a.2⟩
noncomputable def v_laws_markEntryS : Env := { ti := look tab, Γ := fns [], loop := fun b => match b with | 0 => some [.slot 1 (.int .i64), .slot 5 (.int .i64), .vec 0 158 y158 true] | _ => none, cut := fun _ => none, deep := fun _ => false }
theorem c_laws_markEntryS : Contract Try.prog 33 e_laws_markEntryS.sig e_laws_markEntryS.F :=
  den_is (E := v_laws_markEntryS) ⟨tab_ti, tab_eq⟩ (fns_nil _) mixed Try.func33 (by kernel_rfl) (by kernel_rfl) (fun x => by kernel_rfl)

def s_laws_markIntS : Sig := { params := [.io 3 y3, .val false y3], res := [.val false y3] }
noncomputable def e_laws_markIntS : Entry := ⟨s_laws_markIntS, fun a => D.laws_markIntS a.1 a.2⟩
noncomputable def v_laws_markIntS : Env := { ti := look tab, Γ := fns [], loop := fun b => match b with | 0 => some [.slot 1 (.int .i64), .slot 5 (.int .i64), .vec 0 3 y3 true] | _ => none, cut := fun _ => none, deep := fun _ => false }
theorem c_laws_markIntS : Contract Try.prog 20 e_laws_markIntS.sig e_laws_markIntS.F :=
  den_is (E := v_laws_markIntS) ⟨tab_ti, tab_eq⟩ (fns_nil _) mixed Try.func20 (by kernel_rfl) (by kernel_rfl) (fun x => by kernel_rfl)

def s_laws_markIntSS : Sig := { params := [.io 24 y24, .val false y3], res := [.val false y3] }
noncomputable def e_laws_markIntSS : Entry := ⟨s_laws_markIntSS, fun a => D.laws_markIntSS a.1 a.2⟩
noncomputable def v_laws_markIntSS : Env := { ti := look tab, Γ := fns [(20, [], e_laws_markIntS)], loop := fun b => match b with | 0 => some [.slot 1 (.int .i64), .slot 5 (.int .i64), .vec 0 24 y24 true] | _ => none, cut := fun _ => none, deep := fun _ => false }
theorem c_laws_markIntSS : Contract Try.prog 32 e_laws_markIntSS.sig e_laws_markIntSS.F :=
  den_is (E := v_laws_markIntSS) ⟨tab_ti, tab_eq⟩ (fns_cons c_laws_markIntS (fns_nil _)) mixed Try.func32 (by kernel_rfl) (by kernel_rfl) (fun x => by kernel_rfl)

def s_laws_heldIntS : Sig := { params := [.val false y24, .val false y3], res := [.val false y3] }
noncomputable def e_laws_heldIntS : Entry := ⟨s_laws_heldIntS, fun a => D.laws_heldIntS a.1 a.2⟩
noncomputable def v_laws_heldIntS : Env := { ti := look tab, Γ := fns [], loop := fun b => match b with | 0 => some [.slot 1 (.int .i64), .slot 5 (.int .i64)] | _ => none, cut := fun _ => none, deep := fun _ => false }
theorem c_laws_heldIntS : Contract Try.prog 21 e_laws_heldIntS.sig e_laws_heldIntS.F :=
  den_is (E := v_laws_heldIntS) ⟨tab_ti, tab_eq⟩ (fns_nil _) mixed Try.func21 (by kernel_rfl) (by kernel_rfl) (fun x => by kernel_rfl)

def s_laws_heldIntSS : Sig := { params := [.val false y34, .val false y3], res := [.val false y3] }
noncomputable def e_laws_heldIntSS : Entry := ⟨s_laws_heldIntSS, fun a => D.laws_heldIntSS a.1 a.2⟩
noncomputable def v_laws_heldIntSS : Env := { ti := look tab, Γ := fns [(21, [], e_laws_heldIntS)], loop := fun b => match b with | 0 => some [.slot 1 (.int .i64), .slot 5 (.int .i64)] | _ => none, cut := fun _ => none, deep := fun _ => false }
theorem c_laws_heldIntSS : Contract Try.prog 39 e_laws_heldIntSS.sig e_laws_heldIntSS.F :=
  den_is (E := v_laws_heldIntSS) ⟨tab_ti, tab_eq⟩ (fns_cons c_laws_heldIntS (fns_nil _)) mixed Try.func39 (by kernel_rfl) (by kernel_rfl) (fun x => by kernel_rfl)

def s_laws_FnExactToOld : Sig := { params := [.val false y49], res := [.val false y4] }
noncomputable def e_laws_FnExactToOld : Entry := ⟨s_laws_FnExactToOld, fun a => D.laws_FnExactToOld a⟩
noncomputable def v_laws_FnExactToOld : Env := { ti := look tab, Γ := fns [(35, [], e_laws_szEntryS), (37, [], e_laws_toEntryS), (36, [], e_spec_ToOld), (38, [], e_impl_ToOld), (30, [], e_laws_eqIntSS), (28, [], e_laws_eqEntryS), (33, [], e_laws_markEntryS), (32, [], e_laws_markIntSS), (39, [], e_laws_heldIntSS)], loop := fun _ => none, cut := fun _ => none, deep := fun _ => false }
theorem c_laws_FnExactToOld : Contract Try.prog 5 e_laws_FnExactToOld.sig e_laws_FnExactToOld.F :=
  den_is (E := v_laws_FnExactToOld) ⟨tab_ti, tab_eq⟩ (fns_cons c_laws_szEntryS (fns_cons c_laws_toEntryS (fns_cons c_spec_ToOld (fns_cons c_impl_ToOld (fns_cons c_laws_eqIntSS (fns_cons c_laws_eqEntryS (fns_cons c_laws_markEntryS (fns_cons c_laws_markIntSS (fns_cons c_laws_heldIntSS (fns_nil _)))))))))) mixed Try.func5 (by kernel_rfl) (by kernel_rfl) (fun x => by kernel_rfl)

theorem law_true (a : Tup (s_laws_FnExactToOld.params.map PTy.den)) (hok : argsOk Try.prog s_laws_FnExactToOld.params a) : D.laws_FnExactToOld a = some true := D.FnExactToOld_true a (Ty.ok_bd (P := Try.prog) (t := y49) (by kernel_rfl) hok.1)
theorem lifted (os : Os) (started : os.Started) (H : Type) (enc : TypeId × Value → H) :
    ReturnsInHanded {} Try.checked os 5 .any (Rows.fnExactToOldSpec.pre6 enc Try.prog Try.f5 Rows.fnExactToOldRow.domain false) (Rows.fnExactToOldSpec.post enc Try.prog Try.f5 false true false false) := by
  refine returnsInHanded_of_change_sized (C := Try.checked) (by kernel_rfl) started (by kernel_rfl) Try.func5
    (ChangeSpec.witness6 (enc := enc) (C := Try.checked) false ⟨#[], #[.slice none 0 0], []⟩ 8 (by kernel_rfl) (by kernel_rfl) (by kernel_rfl) (by kernel_rfl)) ?_
  intro W base args ds gs before hval hW hcnd hsz _
  exact law_row (C := Try.checked) rfl c_laws_FnExactToOld (N := 8) (by kernel_rfl) (tb := 4) (by kernel_rfl) (by kernel_rfl) (by kernel_rfl) (by kernel_rfl) rfl
    (fun ds h => by
      have h : ds.length = 1 := h
      match ds, h with
      | [d0], _ => rfl)
    bulky_sizeOf (small := fun _ => True) (fun a ds hok _ _ => ⟨_, law_true a hok, rfl⟩) hval hW hsz trivial

theorem over : Rows.fnExactToOldRow.holds Try.pinned (OpenSpec.ofChange Rows.fnExactToOldSpec) :=
  OpenClaim.holds_of_wide 5 Try.f5 rfl rfl rfl rfl rfl rfl rfl ⟨rfl, rfl, rfl, rfl, rfl⟩ rfl rfl rfl rfl rfl (by kernel_rfl) Try.func5 (by kernel_rfl)
    (of_decide_eq_true (by kernel_rfl)) (by unfold Func.isWrapper; first | (rw [if_pos (by decide +kernel)]; kernel_rfl) | (rw [if_neg (by decide +kernel)]; exact ⟨rfl, rfl⟩))
    (fun os started H enc _ => lifted os started H enc)
end Go.Proofs.Ythmpjemfgejccaa.SxFnExactToOld
namespace Go.Proofs.Ythmpjemfgejccaa
theorem fnExactToOld_holds : Rows.FnExactToOldSaid := SxFnExactToOld.over
end Go.Proofs.Ythmpjemfgejccaa
