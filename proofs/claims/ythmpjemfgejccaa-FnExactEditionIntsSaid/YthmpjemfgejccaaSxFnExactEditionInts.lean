/- FnExactEditionInts returns true for every input, and each input reads as it did. No condition. -/
import Derived.Test.YthmpjemfgejccaaRows
import Derived.Test.YthmpjemfgejccaaPuFnExactEditionInts
import Derived.WalkKit
import Derived.ProofKit
import Derived.ShutString
import Derived.SizedLaws
set_option linter.unusedVariables false
set_option maxRecDepth 100000
set_option maxHeartbeats 4000000
namespace Go.Proofs.Ythmpjemfgejccaa.SxFnExactEditionInts
open Go Go.Sh Go.RowKit
def y3 : Ty := .int .i64
def y4 : Ty := .bool
def y24 : Ty := .slice 3 y3
def y85 : Ty := .pair y3 (.pair y3 y3)
def y173 : Ty := .pair y3 (.pair y24 y85)
def y175 : Ty := .pair y85 (.pair y3 y173)
def y54 : Ty := .slice 175 y175
def y93 : Ty := .pair y3 (.pair y3 y3)
def y137 : Ty := .pair y3 (.pair y24 y93)
def y139 : Ty := .pair y93 (.pair y3 y137)
def y58 : Ty := .slice 139 y139
def y68 : Ty := .slice 85 y85
def y70 : Ty := .pair y54 (.pair y3 (.pair y3 y68))
def y73 : Ty := .slice 93 y93
def y75 : Ty := .pair y58 (.pair y3 (.pair y3 y73))
def tab : List (TypeId × TI) := [(3, { size := 1, bytes := 8, agg := false, ty := some y3 }),
  (4, { size := 1, bytes := 1, agg := false, ty := some y4 }),
  (24, { size := 1, bytes := 24, agg := false, ty := some y24, elem := some 3 }),
  (85, { size := 3, bytes := 24, agg := true, ty := some y85, fields := [(0, 3), (1, 3), (2, 3)] }),
  (173, { size := 5, bytes := 56, agg := true, ty := some y173, fields := [(0, 3), (1, 24), (2, 85)] }),
  (175, { size := 9, bytes := 88, agg := true, ty := some y175, fields := [(0, 85), (3, 3), (4, 173)] }),
  (54, { size := 1, bytes := 24, agg := false, ty := some y54, elem := some 175 }),
  (93, { size := 3, bytes := 24, agg := true, ty := some y93, fields := [(0, 3), (1, 3), (2, 3)], eq := true }),
  (137, { size := 5, bytes := 56, agg := true, ty := some y137, fields := [(0, 3), (1, 24), (2, 93)] }),
  (139, { size := 9, bytes := 88, agg := true, ty := some y139, fields := [(0, 93), (3, 3), (4, 137)] }),
  (58, { size := 1, bytes := 24, agg := false, ty := some y58, elem := some 139 }),
  (68, { size := 1, bytes := 24, agg := false, ty := some y68, elem := some 85 }),
  (70, { size := 4, bytes := 64, agg := true, ty := some y70, fields := [(0, 54), (1, 3), (2, 3), (3, 68)] }),
  (73, { size := 1, bytes := 24, agg := false, ty := some y73, elem := some 93 }),
  (75, { size := 4, bytes := 64, agg := true, ty := some y75, fields := [(0, 58), (1, 3), (2, 3), (3, 73)] })]
def look : List (TypeId × TI) → TypeId → Option TI
  | [], _ => none
  | (k, i) :: r, t => if Nat.beq t k = true then some i else look r t
theorem look_ok {P : Program} : ∀ {l : List (TypeId × TI)}, (l.all fun p => tiOk P p.1 p.2) = true → ∀ t i, look l t = some i → tiOk P t i = true
  | [], _, t, i, h => by simp [look] at h
  | (k, j) :: r, h0, t, i, h => by
    simp only [List.all_cons, Bool.and_eq_true] at h0
    simp only [look] at h
    split at h
    · rename_i hk
      simp only [Option.some.injEq] at h
      have := Nat.eq_of_beq_eq_true hk
      subst this; subst h; exact h0.1
    · exact look_ok h0.2 t i h
theorem look_eq {P : Program} : ∀ {l : List (TypeId × TI)}, (l.all fun p => !p.2.eq || eqTop P p.1 p.2.ty) = true → ∀ t i, look l t = some i → i.eq = true → ∀ ty, i.ty = some ty → EqLaw P t ty.zero
  | [], _, t, i, h => by simp [look] at h
  | (k, j) :: r, h0, t, i, h => by
    simp only [List.all_cons, Bool.and_eq_true, Bool.or_eq_true, Bool.not_eq_true'] at h0
    simp only [look] at h
    split at h
    · rename_i hk
      simp only [Option.some.injEq] at h
      have := Nat.eq_of_beq_eq_true hk
      subst this; subst h
      intro he
      exact eqLaw_of (h0.1.resolve_left (by simp [he]))
    · exact look_eq h0.2 t i h
def same : List Nat → List Nat → Bool
  | [], [] => true
  | a :: x, b :: y => Nat.beq a b && same x y
  | _, _ => false
theorem same_eq : ∀ {x y : List Nat}, same x y = true → x = y
  | [], [], _ => rfl
  | a :: x, b :: y, h => by
    simp only [same, Bool.and_eq_true] at h
    rw [Nat.eq_of_beq_eq_true h.1, same_eq h.2]
  | [], _ :: _, h => by simp [same] at h
  | _ :: _, [], h => by simp [same] at h
def fns : List (FuncId × List FuncId × Entry) → FuncId → List FuncId → Option Entry
  | [], _, _ => none
  | (k, c, e) :: r, f, fs => if (Nat.beq f k && same fs c) = true then some e else fns r f fs
theorem fns_nil (P : Program) : ∀ f fs en, fns [] f fs = some en → Contract P f en.sig en.F := fun f fs en h => by simp [fns] at h
theorem fns_cons {P : Program} {k : FuncId} {c : List FuncId} {e : Entry} {r : List (FuncId × List FuncId × Entry)} (hk : Contract P k e.sig e.F) (hr : ∀ f fs en, fns r f fs = some en → Contract P f en.sig en.F) : ∀ f fs en, fns ((k, c, e) :: r) f fs = some en → Contract P f en.sig en.F := fun f fs en h => by
  simp only [fns] at h
  split at h
  · rename_i hf
    simp only [Bool.and_eq_true] at hf
    simp only [Option.some.injEq] at h
    have := Nat.eq_of_beq_eq_true hf.1
    subst this; subst h; exact hk
  · exact hr f fs en h

theorem tab_ti : ∀ t i, look tab t = some i → tiOk Try.prog t i = true := look_ok (by kernel_rfl)
theorem tab_eq : ∀ t i, look tab t = some i → i.eq = true → ∀ ty, i.ty = some ty → EqLaw Try.prog t ty.zero := look_eq (by kernel_rfl)
theorem mixed : Try.prog.follows .mixedOrders = true := by kernel_rfl
def s_laws_szIntS : Sig := { params := [.val false y24, .val false y3], res := [.val false y3] }
noncomputable def e_laws_szIntS : Entry := ⟨s_laws_szIntS, fun a => D.laws_szIntS a.1 a.2⟩
noncomputable def v_laws_szIntS : Env := { ti := look tab, Γ := fns [], loop := fun _ => none, cut := fun _ => none, deep := fun _ => false }
theorem c_laws_szIntS : Contract Try.prog 103 e_laws_szIntS.sig e_laws_szIntS.F :=
  den_is (E := v_laws_szIntS) ⟨tab_ti, tab_eq⟩ (fns_nil _) mixed Try.func103 (by kernel_rfl) (by kernel_rfl) (fun x => by kernel_rfl)

def s_laws_szResource : Sig := { params := [.val true y173, .val false y3], res := [.val false y3] }
noncomputable def e_laws_szResource : Entry := ⟨s_laws_szResource, fun a => D.laws_szResource a.1 a.2⟩
noncomputable def v_laws_szResource : Env := { ti := look tab, Γ := fns [(103, [], e_laws_szIntS)], loop := fun _ => none, cut := fun _ => none, deep := fun _ => false }
theorem c_laws_szResource : Contract Try.prog 199 e_laws_szResource.sig e_laws_szResource.F :=
  den_is (E := v_laws_szResource) ⟨tab_ti, tab_eq⟩ (fns_cons c_laws_szIntS (fns_nil _)) mixed Try.func199 (by kernel_rfl) (by kernel_rfl) (fun x => by kernel_rfl)

def s_laws_szCapture : Sig := { params := [.val true y175, .val false y3], res := [.val false y3] }
noncomputable def e_laws_szCapture : Entry := ⟨s_laws_szCapture, fun a => D.laws_szCapture a.1 a.2⟩
noncomputable def v_laws_szCapture : Env := { ti := look tab, Γ := fns [(199, [], e_laws_szResource)], loop := fun _ => none, cut := fun _ => none, deep := fun _ => false }
theorem c_laws_szCapture : Contract Try.prog 121 e_laws_szCapture.sig e_laws_szCapture.F :=
  den_is (E := v_laws_szCapture) ⟨tab_ti, tab_eq⟩ (fns_cons c_laws_szResource (fns_nil _)) mixed Try.func121 (by kernel_rfl) (by kernel_rfl) (fun x => by kernel_rfl)

def s_laws_szCaptureS : Sig := { params := [.val false y54, .val false y3], res := [.val false y3] }
noncomputable def e_laws_szCaptureS : Entry := ⟨s_laws_szCaptureS, fun a => D.laws_szCaptureS a.1 a.2⟩
noncomputable def v_laws_szCaptureS : Env := { ti := look tab, Γ := fns [(121, [], e_laws_szCapture)], loop := fun b => match b with | 0 => some [.slot 1 (.int .i64), .slot 5 (.int .i64)] | _ => none, cut := fun _ => none, deep := fun _ => false }
theorem c_laws_szCaptureS : Contract Try.prog 40 e_laws_szCaptureS.sig e_laws_szCaptureS.F :=
  den_is (E := v_laws_szCaptureS) ⟨tab_ti, tab_eq⟩ (fns_cons c_laws_szCapture (fns_nil _)) mixed Try.func40 (by kernel_rfl) (by kernel_rfl) (fun x => by kernel_rfl)

def s_laws_szAddressS : Sig := { params := [.val false y68, .val false y3], res := [.val false y3] }
noncomputable def e_laws_szAddressS : Entry := ⟨s_laws_szAddressS, fun a => D.laws_szAddressS a.1 a.2⟩
noncomputable def v_laws_szAddressS : Env := { ti := look tab, Γ := fns [], loop := fun _ => none, cut := fun _ => none, deep := fun _ => false }
theorem c_laws_szAddressS : Contract Try.prog 73 e_laws_szAddressS.sig e_laws_szAddressS.F :=
  den_is (E := v_laws_szAddressS) ⟨tab_ti, tab_eq⟩ (fns_nil _) mixed Try.func73 (by kernel_rfl) (by kernel_rfl) (fun x => by kernel_rfl)

def s_laws_szEdition : Sig := { params := [.val true y70, .val false y3], res := [.val false y3] }
noncomputable def e_laws_szEdition : Entry := ⟨s_laws_szEdition, fun a => D.laws_szEdition a.1 a.2⟩
noncomputable def v_laws_szEdition : Env := { ti := look tab, Γ := fns [(40, [], e_laws_szCaptureS), (73, [], e_laws_szAddressS)], loop := fun _ => none, cut := fun _ => none, deep := fun _ => false }
theorem c_laws_szEdition : Contract Try.prog 51 e_laws_szEdition.sig e_laws_szEdition.F :=
  den_is (E := v_laws_szEdition) ⟨tab_ti, tab_eq⟩ (fns_cons c_laws_szCaptureS (fns_cons c_laws_szAddressS (fns_nil _))) mixed Try.func51 (by kernel_rfl) (by kernel_rfl) (fun x => by kernel_rfl)

def s_laws_toAddress : Sig := { params := [.val true y85], res := [.val true y93] }
noncomputable def e_laws_toAddress : Entry := ⟨s_laws_toAddress, fun a => D.laws_toAddress a⟩
noncomputable def v_laws_toAddress : Env := { ti := look tab, Γ := fns [], loop := fun _ => none, cut := fun _ => none, deep := fun _ => false }
theorem c_laws_toAddress : Contract Try.prog 60 e_laws_toAddress.sig e_laws_toAddress.F :=
  den_is (E := v_laws_toAddress) ⟨tab_ti, tab_eq⟩ (fns_nil _) mixed Try.func60 (by kernel_rfl) (by kernel_rfl) (fun x => by kernel_rfl)

def s_laws_toIntS : Sig := { params := [.val false y24], res := [.row 3 y3 false] }
noncomputable def e_laws_toIntS : Entry := ⟨s_laws_toIntS, fun a => D.laws_toIntS a⟩
noncomputable def v_laws_toIntS : Env := { ti := look tab, Γ := fns [], loop := fun b => match b with | 0 => some [.slot 4 (.int .i64), .vec 3 3 y3 false] | _ => none, cut := fun _ => none, deep := fun _ => false }
theorem c_laws_toIntS : Contract Try.prog 111 e_laws_toIntS.sig e_laws_toIntS.F :=
  den_is (E := v_laws_toIntS) ⟨tab_ti, tab_eq⟩ (fns_nil _) mixed Try.func111 (by kernel_rfl) (by kernel_rfl) (fun x => by kernel_rfl)

def s_laws_toResource : Sig := { params := [.val true y173], res := [.val false y3, .row 3 y3 false, .val false y3, .val false y3, .val false y3], rgroups := [some 5] }
noncomputable def e_laws_toResource : Entry := ⟨s_laws_toResource, fun a => D.laws_toResource a⟩
noncomputable def v_laws_toResource : Env := { ti := look tab, Γ := fns [(111, [], e_laws_toIntS), (60, [], e_laws_toAddress)], loop := fun _ => none, cut := fun _ => none, deep := fun _ => false }
theorem c_laws_toResource : Contract Try.prog 202 e_laws_toResource.sig e_laws_toResource.F :=
  den_is (E := v_laws_toResource) ⟨tab_ti, tab_eq⟩ (fns_cons c_laws_toIntS (fns_cons c_laws_toAddress (fns_nil _))) mixed Try.func202 (by kernel_rfl) (by kernel_rfl) (fun x => by kernel_rfl)

def s_laws_toCapture : Sig := { params := [.val true y175], res := [.val false y3, .val false y3, .val false y3, .val false y3, .val false y3, .row 3 y3 false, .val false y3, .val false y3, .val false y3], rgroups := [some 9] }
noncomputable def e_laws_toCapture : Entry := ⟨s_laws_toCapture, fun a => D.laws_toCapture a⟩
noncomputable def v_laws_toCapture : Env := { ti := look tab, Γ := fns [(60, [], e_laws_toAddress), (202, [], e_laws_toResource)], loop := fun _ => none, cut := fun _ => none, deep := fun _ => false }
theorem c_laws_toCapture : Contract Try.prog 124 e_laws_toCapture.sig e_laws_toCapture.F :=
  den_is (E := v_laws_toCapture) ⟨tab_ti, tab_eq⟩ (fns_cons c_laws_toAddress (fns_cons c_laws_toResource (fns_nil _))) mixed Try.func124 (by kernel_rfl) (by kernel_rfl) (fun x => by kernel_rfl)

def s_laws_toCaptureS : Sig := { params := [.val false y54], res := [.row 139 y139 true] }
noncomputable def e_laws_toCaptureS : Entry := ⟨s_laws_toCaptureS, fun a => D.laws_toCaptureS a⟩
noncomputable def v_laws_toCaptureS : Env := { ti := look tab, Γ := fns [(124, [], e_laws_toCapture)], loop := fun b => match b with | 0 => some [.slot 4 (.int .i64), .vec 3 139 y139 true] | _ => none, cut := fun _ => none, deep := fun t => Nat.beq t 7 }
theorem c_laws_toCaptureS : Contract Try.prog 43 e_laws_toCaptureS.sig e_laws_toCaptureS.F :=
  den_is (E := v_laws_toCaptureS) ⟨tab_ti, tab_eq⟩ (fns_cons c_laws_toCapture (fns_nil _)) mixed Try.func43 (by kernel_rfl) (by kernel_rfl) (fun x => by kernel_rfl)

def s_laws_toAddressS : Sig := { params := [.val false y68], res := [.row 93 y93 false] }
noncomputable def e_laws_toAddressS : Entry := ⟨s_laws_toAddressS, fun a => D.laws_toAddressS a⟩
noncomputable def v_laws_toAddressS : Env := { ti := look tab, Γ := fns [(60, [], e_laws_toAddress)], loop := fun b => match b with | 0 => some [.slot 4 (.int .i64), .vec 3 93 y93 false] | _ => none, cut := fun _ => none, deep := fun _ => false }
theorem c_laws_toAddressS : Contract Try.prog 76 e_laws_toAddressS.sig e_laws_toAddressS.F :=
  den_is (E := v_laws_toAddressS) ⟨tab_ti, tab_eq⟩ (fns_cons c_laws_toAddress (fns_nil _)) mixed Try.func76 (by kernel_rfl) (by kernel_rfl) (fun x => by kernel_rfl)

def s_laws_toEdition : Sig := { params := [.val true y70], res := [.row 139 y139 true, .val false y3, .val false y3, .row 93 y93 false], rgroups := [some 4] }
noncomputable def e_laws_toEdition : Entry := ⟨s_laws_toEdition, fun a => D.laws_toEdition a⟩
noncomputable def v_laws_toEdition : Env := { ti := look tab, Γ := fns [(43, [], e_laws_toCaptureS), (76, [], e_laws_toAddressS)], loop := fun _ => none, cut := fun _ => none, deep := fun _ => false }
theorem c_laws_toEdition : Contract Try.prog 53 e_laws_toEdition.sig e_laws_toEdition.F :=
  den_is (E := v_laws_toEdition) ⟨tab_ti, tab_eq⟩ (fns_cons c_laws_toCaptureS (fns_cons c_laws_toAddressS (fns_nil _))) mixed Try.func53 (by kernel_rfl) (by kernel_rfl) (fun x => by kernel_rfl)

def s_spec_ResourceInts : Sig := { params := [.val true y137], res := [.row 3 y3 false] }
noncomputable def e_spec_ResourceInts : Entry := ⟨s_spec_ResourceInts, fun a => D.spec_ResourceInts a⟩
noncomputable def v_spec_ResourceInts : Env := { ti := look tab, Γ := fns [], loop := fun _ => none, cut := fun _ => none, deep := fun _ => false }
theorem c_spec_ResourceInts : Contract Try.prog 207 e_spec_ResourceInts.sig e_spec_ResourceInts.F :=
  den_is (E := v_spec_ResourceInts) ⟨tab_ti, tab_eq⟩ (fns_nil _) mixed Try.func207 (by kernel_rfl) (by kernel_rfl) (fun x => by kernel_rfl)

def s_spec_CaptureInts : Sig := { params := [.val true y139], res := [.row 3 y3 false] }
noncomputable def e_spec_CaptureInts : Entry := ⟨s_spec_CaptureInts, fun a => D.spec_CaptureInts a⟩
noncomputable def v_spec_CaptureInts : Env := { ti := look tab, Γ := fns [(207, [], e_spec_ResourceInts)], loop := fun _ => none, cut := fun _ => none, deep := fun _ => false }
theorem c_spec_CaptureInts : Contract Try.prog 132 e_spec_CaptureInts.sig e_spec_CaptureInts.F :=
  den_is (E := v_spec_CaptureInts) ⟨tab_ti, tab_eq⟩ (fns_cons c_spec_ResourceInts (fns_nil _)) mixed Try.func132 (by kernel_rfl) (by kernel_rfl) (fun x => by kernel_rfl)

def s_spec_EditionInts : Sig := { params := [.val true y75], res := [.row 3 y3 false] }
noncomputable def e_spec_EditionInts : Entry := ⟨s_spec_EditionInts, fun a => D.spec_EditionInts a⟩
noncomputable def v_spec_EditionInts : Env := { ti := look tab, Γ := fns [(132, [], e_spec_CaptureInts)], loop := fun b => match b with | 0 => some [.slot 3 (.own 3 y3 false), .slot 4 (.int .i64)] | _ => none, cut := fun _ => none, deep := fun _ => false }
theorem c_spec_EditionInts : Contract Try.prog 52 e_spec_EditionInts.sig e_spec_EditionInts.F :=
  den_is (E := v_spec_EditionInts) ⟨tab_ti, tab_eq⟩ (fns_cons c_spec_CaptureInts (fns_nil _)) mixed Try.func52 (by kernel_rfl) (by kernel_rfl) (fun x => by kernel_rfl)

def s_impl_ResourceInts : Sig := { params := [.val true y137], res := [.row 3 y3 false] }
noncomputable def e_impl_ResourceInts : Entry := ⟨s_impl_ResourceInts, fun a => D.impl_ResourceInts a⟩
noncomputable def v_impl_ResourceInts : Env := { ti := look tab, Γ := fns [], loop := fun _ => none, cut := fun _ => none, deep := fun _ => false }
theorem c_impl_ResourceInts : Contract Try.prog 208 e_impl_ResourceInts.sig e_impl_ResourceInts.F :=
  den_is (E := v_impl_ResourceInts) ⟨tab_ti, tab_eq⟩ (fns_nil _) mixed Try.func208 (by kernel_rfl) (by kernel_rfl) (fun x => by kernel_rfl)

def s_impl_CaptureInts : Sig := { params := [.val true y139], res := [.row 3 y3 false] }
noncomputable def e_impl_CaptureInts : Entry := ⟨s_impl_CaptureInts, fun a => D.impl_CaptureInts a⟩
noncomputable def v_impl_CaptureInts : Env := { ti := look tab, Γ := fns [(208, [], e_impl_ResourceInts)], loop := fun _ => none, cut := fun _ => none, deep := fun _ => false }
theorem c_impl_CaptureInts : Contract Try.prog 133 e_impl_CaptureInts.sig e_impl_CaptureInts.F :=
  den_is (E := v_impl_CaptureInts) ⟨tab_ti, tab_eq⟩ (fns_cons c_impl_ResourceInts (fns_nil _)) mixed Try.func133 (by kernel_rfl) (by kernel_rfl) (fun x => by kernel_rfl)

def s_impl_EditionInts : Sig := { params := [.val true y75], res := [.row 3 y3 false] }
noncomputable def e_impl_EditionInts : Entry := ⟨s_impl_EditionInts, fun a => D.impl_EditionInts a⟩
noncomputable def v_impl_EditionInts : Env := { ti := look tab, Γ := fns [(133, [], e_impl_CaptureInts)], loop := fun b => match b with | 0 => some [.slot 3 (.own 3 y3 false), .slot 14 (.int .i64)] | _ => none, cut := fun _ => none, deep := fun _ => false }
theorem c_impl_EditionInts : Contract Try.prog 54 e_impl_EditionInts.sig e_impl_EditionInts.F :=
  den_is (E := v_impl_EditionInts) ⟨tab_ti, tab_eq⟩ (fns_cons c_impl_CaptureInts (fns_nil _)) mixed Try.func54 (by kernel_rfl) (by kernel_rfl) (fun x => by kernel_rfl)

def s_laws_eqIntS : Sig := { params := [.val false y24, .val false y24], res := [.val false y4] }
noncomputable def e_laws_eqIntS : Entry := ⟨s_laws_eqIntS, fun a => D.laws_eqIntS a.1 a.2⟩
noncomputable def v_laws_eqIntS : Env := { ti := look tab, Γ := fns [], loop := fun b => match b with | 0 => some [.slot 5 (.int .i64)] | _ => none, cut := fun _ => none, deep := fun _ => false }
theorem c_laws_eqIntS : Contract Try.prog 17 e_laws_eqIntS.sig e_laws_eqIntS.F :=
  den_is (E := v_laws_eqIntS) ⟨tab_ti, tab_eq⟩ (fns_nil _) mixed Try.func17 (by kernel_rfl) (by kernel_rfl) (fun x => by kernel_rfl)

def s_laws_eqAddress : Sig := { params := [.val true y93, .val true y93], res := [.val false y4] }
noncomputable def e_laws_eqAddress : Entry := ⟨s_laws_eqAddress, fun a => D.laws_eqAddress a.1 a.2⟩
noncomputable def v_laws_eqAddress : Env := { ti := look tab, Γ := fns [], loop := fun _ => none, cut := fun _ => none, deep := fun _ => false }
theorem c_laws_eqAddress : Contract Try.prog 161 e_laws_eqAddress.sig e_laws_eqAddress.F :=
  den_is (E := v_laws_eqAddress) ⟨tab_ti, tab_eq⟩ (fns_nil _) mixed Try.func161 (by kernel_rfl) (by kernel_rfl) (fun x => by kernel_rfl)

def s_laws_eqResource : Sig := { params := [.val true y137, .val true y137], res := [.val false y4] }
noncomputable def e_laws_eqResource : Entry := ⟨s_laws_eqResource, fun a => D.laws_eqResource a.1 a.2⟩
noncomputable def v_laws_eqResource : Env := { ti := look tab, Γ := fns [(17, [], e_laws_eqIntS), (161, [], e_laws_eqAddress)], loop := fun _ => none, cut := fun _ => none, deep := fun _ => false }
theorem c_laws_eqResource : Contract Try.prog 206 e_laws_eqResource.sig e_laws_eqResource.F :=
  den_is (E := v_laws_eqResource) ⟨tab_ti, tab_eq⟩ (fns_cons c_laws_eqIntS (fns_cons c_laws_eqAddress (fns_nil _))) mixed Try.func206 (by kernel_rfl) (by kernel_rfl) (fun x => by kernel_rfl)

def s_laws_eqCapture : Sig := { params := [.val true y139, .val true y139], res := [.val false y4] }
noncomputable def e_laws_eqCapture : Entry := ⟨s_laws_eqCapture, fun a => D.laws_eqCapture a.1 a.2⟩
noncomputable def v_laws_eqCapture : Env := { ti := look tab, Γ := fns [(161, [], e_laws_eqAddress), (206, [], e_laws_eqResource)], loop := fun _ => none, cut := fun _ => none, deep := fun _ => false }
theorem c_laws_eqCapture : Contract Try.prog 130 e_laws_eqCapture.sig e_laws_eqCapture.F :=
  den_is (E := v_laws_eqCapture) ⟨tab_ti, tab_eq⟩ (fns_cons c_laws_eqAddress (fns_cons c_laws_eqResource (fns_nil _))) mixed Try.func130 (by kernel_rfl) (by kernel_rfl) (fun x => by kernel_rfl)

def s_laws_eqCaptureS : Sig := { params := [.val false y58, .val false y58], res := [.val false y4] }
noncomputable def e_laws_eqCaptureS : Entry := ⟨s_laws_eqCaptureS, fun a => D.laws_eqCaptureS a.1 a.2⟩
noncomputable def v_laws_eqCaptureS : Env := { ti := look tab, Γ := fns [(130, [], e_laws_eqCapture)], loop := fun b => match b with | 0 => some [.slot 5 (.int .i64)] | _ => none, cut := fun _ => none, deep := fun _ => false }
theorem c_laws_eqCaptureS : Contract Try.prog 46 e_laws_eqCaptureS.sig e_laws_eqCaptureS.F :=
  den_is (E := v_laws_eqCaptureS) ⟨tab_ti, tab_eq⟩ (fns_cons c_laws_eqCapture (fns_nil _)) mixed Try.func46 (by kernel_rfl) (by kernel_rfl) (fun x => by kernel_rfl)

def s_laws_eqAddressS : Sig := { params := [.val false y73, .val false y73], res := [.val false y4] }
noncomputable def e_laws_eqAddressS : Entry := ⟨s_laws_eqAddressS, fun a => D.laws_eqAddressS a.1 a.2⟩
noncomputable def v_laws_eqAddressS : Env := { ti := look tab, Γ := fns [(161, [], e_laws_eqAddress)], loop := fun b => match b with | 0 => some [.slot 5 (.int .i64)] | _ => none, cut := fun _ => none, deep := fun _ => false }
theorem c_laws_eqAddressS : Contract Try.prog 79 e_laws_eqAddressS.sig e_laws_eqAddressS.F :=
  den_is (E := v_laws_eqAddressS) ⟨tab_ti, tab_eq⟩ (fns_cons c_laws_eqAddress (fns_nil _)) mixed Try.func79 (by kernel_rfl) (by kernel_rfl) (fun x => by kernel_rfl)

def s_laws_eqEdition : Sig := { params := [.val true y75, .val true y75], res := [.val false y4] }
noncomputable def e_laws_eqEdition : Entry := ⟨s_laws_eqEdition, fun a => D.laws_eqEdition a.1 a.2⟩
noncomputable def v_laws_eqEdition : Env := { ti := look tab, Γ := fns [(46, [], e_laws_eqCaptureS), (79, [], e_laws_eqAddressS)], loop := fun _ => none, cut := fun _ => none, deep := fun _ => false }
theorem c_laws_eqEdition : Contract Try.prog 55 e_laws_eqEdition.sig e_laws_eqEdition.F :=
  den_is (E := v_laws_eqEdition) ⟨tab_ti, tab_eq⟩ (fns_cons c_laws_eqCaptureS (fns_cons c_laws_eqAddressS (fns_nil _))) mixed Try.func55 (by kernel_rfl) (by kernel_rfl) (fun x => by kernel_rfl)

def s_laws_markIntS : Sig := { params := [.io 3 y3, .val false y3], res := [.val false y3] }
noncomputable def e_laws_markIntS : Entry := ⟨s_laws_markIntS, fun a => D.laws_markIntS a.1 a.2⟩
noncomputable def v_laws_markIntS : Env := { ti := look tab, Γ := fns [], loop := fun b => match b with | 0 => some [.slot 1 (.int .i64), .slot 5 (.int .i64), .vec 0 3 y3 true] | _ => none, cut := fun _ => none, deep := fun _ => false }
theorem c_laws_markIntS : Contract Try.prog 20 e_laws_markIntS.sig e_laws_markIntS.F :=
  den_is (E := v_laws_markIntS) ⟨tab_ti, tab_eq⟩ (fns_nil _) mixed Try.func20 (by kernel_rfl) (by kernel_rfl) (fun x => by kernel_rfl)

def s_laws_markCaptureS : Sig := { params := [.io 139 y139, .val false y3], res := [.val false y3] }
noncomputable def e_laws_markCaptureS : Entry := ⟨s_laws_markCaptureS, fun a => D.laws_markCaptureS a.1 a.2⟩
noncomputable def v_laws_markCaptureS : Env := { ti := look tab, Γ := fns [(20, [], e_laws_markIntS)], loop := fun b => match b with | 0 => some [.slot 1 (.int .i64), .slot 5 (.int .i64), .vec 0 139 y139 true] | _ => none, cut := fun _ => none, deep := fun _ => false }
theorem c_laws_markCaptureS : Contract Try.prog 48 e_laws_markCaptureS.sig e_laws_markCaptureS.F :=
  den_is (E := v_laws_markCaptureS) ⟨tab_ti, tab_eq⟩ (fns_cons c_laws_markIntS (fns_nil _)) mixed Try.func48 (by kernel_rfl) (by kernel_rfl) (fun x => by kernel_rfl)

def s_laws_markAddressS : Sig := { params := [.io 93 y93, .val false y3], res := [.val false y3] }
noncomputable def e_laws_markAddressS : Entry := ⟨s_laws_markAddressS, fun a => D.laws_markAddressS a.1 a.2⟩
noncomputable def v_laws_markAddressS : Env := { ti := look tab, Γ := fns [], loop := fun b => match b with | 0 => some [.slot 1 (.int .i64), .slot 5 (.int .i64), .vec 0 93 y93 true] | _ => none, cut := fun _ => none, deep := fun _ => false }
theorem c_laws_markAddressS : Contract Try.prog 81 e_laws_markAddressS.sig e_laws_markAddressS.F :=
  den_is (E := v_laws_markAddressS) ⟨tab_ti, tab_eq⟩ (fns_nil _) mixed Try.func81 (by kernel_rfl) (by kernel_rfl) (fun x => by kernel_rfl)

def s_laws_markEdition : Sig := { params := [.io 139 y139, .val false y3, .val false y3, .io 93 y93, .val false y3], res := [.val false y3], groups := [some 4, none] }
noncomputable def e_laws_markEdition : Entry := ⟨s_laws_markEdition, fun a => D.laws_markEdition a.1 a.2.1 a.2.2.1 a.2.2.2.1 a.2.2.2.2⟩
noncomputable def v_laws_markEdition : Env := { ti := look tab, Γ := fns [(48, [], e_laws_markCaptureS), (81, [], e_laws_markAddressS)], loop := fun _ => none, cut := fun _ => none, deep := fun _ => false }
theorem c_laws_markEdition : Contract Try.prog 56 e_laws_markEdition.sig e_laws_markEdition.F :=
  den_is (E := v_laws_markEdition) ⟨tab_ti, tab_eq⟩ (fns_cons c_laws_markCaptureS (fns_cons c_laws_markAddressS (fns_nil _))) mixed Try.func56 (by kernel_rfl) (by kernel_rfl) (fun x => by kernel_rfl)

def s_laws_heldIntS : Sig := { params := [.val false y24, .val false y3], res := [.val false y3] }
noncomputable def e_laws_heldIntS : Entry := ⟨s_laws_heldIntS, fun a => D.laws_heldIntS a.1 a.2⟩
noncomputable def v_laws_heldIntS : Env := { ti := look tab, Γ := fns [], loop := fun b => match b with | 0 => some [.slot 1 (.int .i64), .slot 5 (.int .i64)] | _ => none, cut := fun _ => none, deep := fun _ => false }
theorem c_laws_heldIntS : Contract Try.prog 21 e_laws_heldIntS.sig e_laws_heldIntS.F :=
  den_is (E := v_laws_heldIntS) ⟨tab_ti, tab_eq⟩ (fns_nil _) mixed Try.func21 (by kernel_rfl) (by kernel_rfl) (fun x => by kernel_rfl)

def s_laws_FnExactEditionInts : Sig := { params := [.val true y70], res := [.val false y4] }
noncomputable def e_laws_FnExactEditionInts : Entry := ⟨s_laws_FnExactEditionInts, fun a => D.laws_FnExactEditionInts a⟩
noncomputable def v_laws_FnExactEditionInts : Env := { ti := look tab, Γ := fns [(51, [], e_laws_szEdition), (53, [], e_laws_toEdition), (52, [], e_spec_EditionInts), (54, [], e_impl_EditionInts), (17, [], e_laws_eqIntS), (55, [], e_laws_eqEdition), (56, [], e_laws_markEdition), (20, [], e_laws_markIntS), (21, [], e_laws_heldIntS)], loop := fun _ => none, cut := fun _ => none, deep := fun _ => false }
theorem c_laws_FnExactEditionInts : Contract Try.prog 7 e_laws_FnExactEditionInts.sig e_laws_FnExactEditionInts.F :=
  den_is (E := v_laws_FnExactEditionInts) ⟨tab_ti, tab_eq⟩ (fns_cons c_laws_szEdition (fns_cons c_laws_toEdition (fns_cons c_spec_EditionInts (fns_cons c_impl_EditionInts (fns_cons c_laws_eqIntS (fns_cons c_laws_eqEdition (fns_cons c_laws_markEdition (fns_cons c_laws_markIntS (fns_cons c_laws_heldIntS (fns_nil _)))))))))) mixed Try.func7 (by kernel_rfl) (by kernel_rfl) (fun x => by kernel_rfl)

theorem law_true (a : Tup (s_laws_FnExactEditionInts.params.map PTy.den)) (hok : argsOk Try.prog s_laws_FnExactEditionInts.params a) : D.laws_FnExactEditionInts a = some true := D.FnExactEditionInts_true a (Ty.ok_bd (P := Try.prog) (t := y70) (by kernel_rfl) hok.1)
theorem lifted (os : Os) (started : os.Started) (H : Type) (enc : TypeId × Value → H) :
    ReturnsInHanded {} Try.checked os 7 .any (Rows.fnExactEditionIntsSpec.pre6 enc Try.prog Try.f7 Rows.fnExactEditionIntsRow.domain false) (Rows.fnExactEditionIntsSpec.post enc Try.prog Try.f7 false true false false) := by
  refine returnsInHanded_of_change_sized (C := Try.checked) (by kernel_rfl) started (by kernel_rfl) Try.func7
    (ChangeSpec.witness6 (enc := enc) (C := Try.checked) false ⟨#[], #[.agg #[.slice none 0 0, .int .i64 0, .int .i64 0, .slice none 0 0]], []⟩ 8 (by kernel_rfl) (by kernel_rfl) (by kernel_rfl) (by kernel_rfl)) ?_
  intro W base args ds gs before hval hW hcnd hsz _
  exact law_row (C := Try.checked) rfl c_laws_FnExactEditionInts (N := 8) (by kernel_rfl) (tb := 4) (by kernel_rfl) (by kernel_rfl) (by kernel_rfl) (by kernel_rfl) rfl
    (fun ds h => by
      have h : ds.length = 1 := h
      match ds, h with
      | [d0], _ => rfl)
    bulky_sizeOf (small := fun _ => True) (fun a ds hok _ _ => ⟨_, law_true a hok, rfl⟩) hval hW hsz trivial

theorem over : Rows.fnExactEditionIntsRow.holds Try.pinned (OpenSpec.ofChange Rows.fnExactEditionIntsSpec) :=
  OpenClaim.holds_of_wide 7 Try.f7 rfl rfl rfl rfl rfl rfl rfl ⟨rfl, rfl, rfl, rfl, rfl⟩ rfl rfl rfl rfl rfl (by kernel_rfl) Try.func7 (by kernel_rfl)
    (of_decide_eq_true (by kernel_rfl)) (by unfold Func.isWrapper; first | (rw [if_pos (by decide +kernel)]; kernel_rfl) | (rw [if_neg (by decide +kernel)]; exact ⟨rfl, rfl⟩))
    (fun os started H enc _ => lifted os started H enc)
end Go.Proofs.Ythmpjemfgejccaa.SxFnExactEditionInts
namespace Go.Proofs.Ythmpjemfgejccaa
theorem fnExactEditionInts_holds : Rows.FnExactEditionIntsSaid := SxFnExactEditionInts.over
end Go.Proofs.Ythmpjemfgejccaa
