/- FnExactPlayContainer returns true for every input, and each input reads as it did. No condition. -/
import Derived.Test.YthmpjemfgejccaaRows
import Derived.Test.YthmpjemfgejccaaPuFnExactPlayContainer
import Derived.WalkKit
import Derived.ProofKit
import Derived.ShutString
import Derived.SizedLaws
set_option linter.unusedVariables false
set_option maxRecDepth 100000
set_option maxHeartbeats 4000000
namespace Go.Proofs.Ythmpjemfgejccaa.SxFnExactPlayContainer
open Go Go.Sh Go.RowKit
def y3 : Ty := .int .i64
def y4 : Ty := .bool
def y24 : Ty := .slice 3 y3
def y164 : Ty := .pair y3 (.pair y3 (.pair y3 y3))
def y33 : Ty := .slice 164 y164
def y93 : Ty := .pair y3 (.pair y3 y3)
def y158 : Ty := .pair y3 (.pair y93 y3)
def y37 : Ty := .slice 158 y158
def y162 : Ty := .pair y3 (.pair y3 (.pair y3 y3))
def y40 : Ty := .slice 162 y162
def y85 : Ty := .pair y3 (.pair y3 y3)
def y170 : Ty := .pair y3 (.pair y85 y3)
def y49 : Ty := .slice 170 y170
def y173 : Ty := .pair y3 (.pair y24 y85)
def y175 : Ty := .pair y85 (.pair y3 y173)
def y54 : Ty := .slice 175 y175
def y137 : Ty := .pair y3 (.pair y24 y93)
def y139 : Ty := .pair y93 (.pair y3 y137)
def y58 : Ty := .slice 139 y139
def y101 : Ty := .pair y40 (.pair y37 (.pair y58 y3))
def y120 : Ty := .pair y33 (.pair y49 (.pair y54 y3))
def y123 : Ty := .pair y3 (.pair y24 (.pair y24 y24))
def y125 : Ty := .pair y3 (.pair y3 y123)
def y155 : Ty := .pair y3 y93
def y247 : Ty := .slice 123 y123
def tab : List (TypeId × TI) := [(3, { size := 1, bytes := 8, agg := false, ty := some y3 }),
  (4, { size := 1, bytes := 1, agg := false, ty := some y4 }),
  (24, { size := 1, bytes := 24, agg := false, ty := some y24, elem := some 3 }),
  (164, { size := 4, bytes := 32, agg := true, ty := some y164, fields := [(0, 3), (1, 3), (2, 3), (3, 3)] }),
  (33, { size := 1, bytes := 24, agg := false, ty := some y33, elem := some 164 }),
  (93, { size := 3, bytes := 24, agg := true, ty := some y93, fields := [(0, 3), (1, 3), (2, 3)], eq := true }),
  (158, { size := 5, bytes := 40, agg := true, ty := some y158, fields := [(0, 3), (1, 93), (4, 3)] }),
  (37, { size := 1, bytes := 24, agg := false, ty := some y37, elem := some 158 }),
  (162, { size := 4, bytes := 32, agg := true, ty := some y162, fields := [(0, 3), (1, 3), (2, 3), (3, 3)] }),
  (40, { size := 1, bytes := 24, agg := false, ty := some y40, elem := some 162 }),
  (85, { size := 3, bytes := 24, agg := true, ty := some y85, fields := [(0, 3), (1, 3), (2, 3)] }),
  (170, { size := 5, bytes := 40, agg := true, ty := some y170, fields := [(0, 3), (1, 85), (4, 3)] }),
  (49, { size := 1, bytes := 24, agg := false, ty := some y49, elem := some 170 }),
  (173, { size := 5, bytes := 56, agg := true, ty := some y173, fields := [(0, 3), (1, 24), (2, 85)] }),
  (175, { size := 9, bytes := 88, agg := true, ty := some y175, fields := [(0, 85), (3, 3), (4, 173)] }),
  (54, { size := 1, bytes := 24, agg := false, ty := some y54, elem := some 175 }),
  (137, { size := 5, bytes := 56, agg := true, ty := some y137, fields := [(0, 3), (1, 24), (2, 93)] }),
  (139, { size := 9, bytes := 88, agg := true, ty := some y139, fields := [(0, 93), (3, 3), (4, 137)] }),
  (58, { size := 1, bytes := 24, agg := false, ty := some y58, elem := some 139 }),
  (101, { size := 4, bytes := 80, agg := true, ty := some y101, fields := [(0, 40), (1, 37), (2, 58), (3, 3)] }),
  (120, { size := 4, bytes := 80, agg := true, ty := some y120, fields := [(0, 33), (1, 49), (2, 54), (3, 3)] }),
  (123, { size := 4, bytes := 80, agg := true, ty := some y123, fields := [(0, 3), (1, 24), (2, 24), (3, 24)] }),
  (125, { size := 6, bytes := 96, agg := true, ty := some y125, fields := [(0, 3), (1, 3), (2, 123)] }),
  (155, { size := 4, bytes := 32, agg := true, ty := some y155, fields := [(0, 3), (1, 93)] }),
  (247, { size := 1, bytes := 24, agg := false, ty := some y247, elem := some 123 })]
def look : List (TypeId × TI) → TypeId → Option TI
  | [], _ => none
  | (k, i) :: r, t => if Nat.beq t k = true then some i else look r t
theorem look_ok {P : Program} : ∀ {l : List (TypeId × TI)}, (l.all fun p => tiOk P p.1 p.2) = true → ∀ t i, look l t = some i → tiOk P t i = true
  | [], _, t, i, h => by simp [look] at h
  | (k, j) :: r, h0, t, i, h => by
    simp only [List.all_cons, Bool.and_eq_true] at h0
    simp only [look] at h
    split at h
    · rename_i hk
      simp only [Option.some.injEq] at h
      have := Nat.eq_of_beq_eq_true hk
      subst this; subst h; exact h0.1
    · exact look_ok h0.2 t i h
theorem look_eq {P : Program} : ∀ {l : List (TypeId × TI)}, (l.all fun p => !p.2.eq || eqTop P p.1 p.2.ty) = true → ∀ t i, look l t = some i → i.eq = true → ∀ ty, i.ty = some ty → EqLaw P t ty.zero
  | [], _, t, i, h => by simp [look] at h
  | (k, j) :: r, h0, t, i, h => by
    simp only [List.all_cons, Bool.and_eq_true, Bool.or_eq_true, Bool.not_eq_true'] at h0
    simp only [look] at h
    split at h
    · rename_i hk
      simp only [Option.some.injEq] at h
      have := Nat.eq_of_beq_eq_true hk
      subst this; subst h
      intro he
      exact eqLaw_of (h0.1.resolve_left (by simp [he]))
    · exact look_eq h0.2 t i h
def same : List Nat → List Nat → Bool
  | [], [] => true
  | a :: x, b :: y => Nat.beq a b && same x y
  | _, _ => false
theorem same_eq : ∀ {x y : List Nat}, same x y = true → x = y
  | [], [], _ => rfl
  | a :: x, b :: y, h => by
    simp only [same, Bool.and_eq_true] at h
    rw [Nat.eq_of_beq_eq_true h.1, same_eq h.2]
  | [], _ :: _, h => by simp [same] at h
  | _ :: _, [], h => by simp [same] at h
def fns : List (FuncId × List FuncId × Entry) → FuncId → List FuncId → Option Entry
  | [], _, _ => none
  | (k, c, e) :: r, f, fs => if (Nat.beq f k && same fs c) = true then some e else fns r f fs
theorem fns_nil (P : Program) : ∀ f fs en, fns [] f fs = some en → Contract P f en.sig en.F := fun f fs en h => by simp [fns] at h
theorem fns_cons {P : Program} {k : FuncId} {c : List FuncId} {e : Entry} {r : List (FuncId × List FuncId × Entry)} (hk : Contract P k e.sig e.F) (hr : ∀ f fs en, fns r f fs = some en → Contract P f en.sig en.F) : ∀ f fs en, fns ((k, c, e) :: r) f fs = some en → Contract P f en.sig en.F := fun f fs en h => by
  simp only [fns] at h
  split at h
  · rename_i hf
    simp only [Bool.and_eq_true] at hf
    simp only [Option.some.injEq] at h
    have := Nat.eq_of_beq_eq_true hf.1
    subst this; subst h; exact hk
  · exact hr f fs en h

theorem tab_ti : ∀ t i, look tab t = some i → tiOk Try.prog t i = true := look_ok (by kernel_rfl)
theorem tab_eq : ∀ t i, look tab t = some i → i.eq = true → ∀ ty, i.ty = some ty → EqLaw Try.prog t ty.zero := look_eq (by kernel_rfl)
theorem mixed : Try.prog.follows .mixedOrders = true := by kernel_rfl
def s_laws_szOpS : Sig := { params := [.val false y33, .val false y3], res := [.val false y3] }
noncomputable def e_laws_szOpS : Entry := ⟨s_laws_szOpS, fun a => D.laws_szOpS a.1 a.2⟩
noncomputable def v_laws_szOpS : Env := { ti := look tab, Γ := fns [], loop := fun _ => none, cut := fun _ => none, deep := fun _ => false }
theorem c_laws_szOpS : Contract Try.prog 22 e_laws_szOpS.sig e_laws_szOpS.F :=
  den_is (E := v_laws_szOpS) ⟨tab_ti, tab_eq⟩ (fns_nil _) mixed Try.func22 (by kernel_rfl) (by kernel_rfl) (fun x => by kernel_rfl)

def s_laws_szEntryS : Sig := { params := [.val false y49, .val false y3], res := [.val false y3] }
noncomputable def e_laws_szEntryS : Entry := ⟨s_laws_szEntryS, fun a => D.laws_szEntryS a.1 a.2⟩
noncomputable def v_laws_szEntryS : Env := { ti := look tab, Γ := fns [], loop := fun _ => none, cut := fun _ => none, deep := fun _ => false }
theorem c_laws_szEntryS : Contract Try.prog 35 e_laws_szEntryS.sig e_laws_szEntryS.F :=
  den_is (E := v_laws_szEntryS) ⟨tab_ti, tab_eq⟩ (fns_nil _) mixed Try.func35 (by kernel_rfl) (by kernel_rfl) (fun x => by kernel_rfl)

def s_laws_szIntS : Sig := { params := [.val false y24, .val false y3], res := [.val false y3] }
noncomputable def e_laws_szIntS : Entry := ⟨s_laws_szIntS, fun a => D.laws_szIntS a.1 a.2⟩
noncomputable def v_laws_szIntS : Env := { ti := look tab, Γ := fns [], loop := fun _ => none, cut := fun _ => none, deep := fun _ => false }
theorem c_laws_szIntS : Contract Try.prog 103 e_laws_szIntS.sig e_laws_szIntS.F :=
  den_is (E := v_laws_szIntS) ⟨tab_ti, tab_eq⟩ (fns_nil _) mixed Try.func103 (by kernel_rfl) (by kernel_rfl) (fun x => by kernel_rfl)

def s_laws_szResource : Sig := { params := [.val true y173, .val false y3], res := [.val false y3] }
noncomputable def e_laws_szResource : Entry := ⟨s_laws_szResource, fun a => D.laws_szResource a.1 a.2⟩
noncomputable def v_laws_szResource : Env := { ti := look tab, Γ := fns [(103, [], e_laws_szIntS)], loop := fun _ => none, cut := fun _ => none, deep := fun _ => false }
theorem c_laws_szResource : Contract Try.prog 199 e_laws_szResource.sig e_laws_szResource.F :=
  den_is (E := v_laws_szResource) ⟨tab_ti, tab_eq⟩ (fns_cons c_laws_szIntS (fns_nil _)) mixed Try.func199 (by kernel_rfl) (by kernel_rfl) (fun x => by kernel_rfl)

def s_laws_szCapture : Sig := { params := [.val true y175, .val false y3], res := [.val false y3] }
noncomputable def e_laws_szCapture : Entry := ⟨s_laws_szCapture, fun a => D.laws_szCapture a.1 a.2⟩
noncomputable def v_laws_szCapture : Env := { ti := look tab, Γ := fns [(199, [], e_laws_szResource)], loop := fun _ => none, cut := fun _ => none, deep := fun _ => false }
theorem c_laws_szCapture : Contract Try.prog 121 e_laws_szCapture.sig e_laws_szCapture.F :=
  den_is (E := v_laws_szCapture) ⟨tab_ti, tab_eq⟩ (fns_cons c_laws_szResource (fns_nil _)) mixed Try.func121 (by kernel_rfl) (by kernel_rfl) (fun x => by kernel_rfl)

def s_laws_szCaptureS : Sig := { params := [.val false y54, .val false y3], res := [.val false y3] }
noncomputable def e_laws_szCaptureS : Entry := ⟨s_laws_szCaptureS, fun a => D.laws_szCaptureS a.1 a.2⟩
noncomputable def v_laws_szCaptureS : Env := { ti := look tab, Γ := fns [(121, [], e_laws_szCapture)], loop := fun b => match b with | 0 => some [.slot 1 (.int .i64), .slot 5 (.int .i64)] | _ => none, cut := fun _ => none, deep := fun _ => false }
theorem c_laws_szCaptureS : Contract Try.prog 40 e_laws_szCaptureS.sig e_laws_szCaptureS.F :=
  den_is (E := v_laws_szCaptureS) ⟨tab_ti, tab_eq⟩ (fns_cons c_laws_szCapture (fns_nil _)) mixed Try.func40 (by kernel_rfl) (by kernel_rfl) (fun x => by kernel_rfl)

def s_laws_szContainer : Sig := { params := [.val true y120, .val false y3], res := [.val false y3] }
noncomputable def e_laws_szContainer : Entry := ⟨s_laws_szContainer, fun a => D.laws_szContainer a.1 a.2⟩
noncomputable def v_laws_szContainer : Env := { ti := look tab, Γ := fns [(22, [], e_laws_szOpS), (35, [], e_laws_szEntryS), (40, [], e_laws_szCaptureS)], loop := fun _ => none, cut := fun _ => none, deep := fun _ => false }
theorem c_laws_szContainer : Contract Try.prog 83 e_laws_szContainer.sig e_laws_szContainer.F :=
  den_is (E := v_laws_szContainer) ⟨tab_ti, tab_eq⟩ (fns_cons c_laws_szOpS (fns_cons c_laws_szEntryS (fns_cons c_laws_szCaptureS (fns_nil _)))) mixed Try.func83 (by kernel_rfl) (by kernel_rfl) (fun x => by kernel_rfl)

def s_laws_toOp : Sig := { params := [.val true y164], res := [.val true y162] }
noncomputable def e_laws_toOp : Entry := ⟨s_laws_toOp, fun a => D.laws_toOp a⟩
noncomputable def v_laws_toOp : Env := { ti := look tab, Γ := fns [], loop := fun _ => none, cut := fun _ => none, deep := fun _ => false }
theorem c_laws_toOp : Contract Try.prog 110 e_laws_toOp.sig e_laws_toOp.F :=
  den_is (E := v_laws_toOp) ⟨tab_ti, tab_eq⟩ (fns_nil _) mixed Try.func110 (by kernel_rfl) (by kernel_rfl) (fun x => by kernel_rfl)

def s_laws_toOpS : Sig := { params := [.val false y33], res := [.row 162 y162 false] }
noncomputable def e_laws_toOpS : Entry := ⟨s_laws_toOpS, fun a => D.laws_toOpS a⟩
noncomputable def v_laws_toOpS : Env := { ti := look tab, Γ := fns [(110, [], e_laws_toOp)], loop := fun b => match b with | 0 => some [.slot 4 (.int .i64), .vec 3 162 y162 false] | _ => none, cut := fun _ => none, deep := fun _ => false }
theorem c_laws_toOpS : Contract Try.prog 25 e_laws_toOpS.sig e_laws_toOpS.F :=
  den_is (E := v_laws_toOpS) ⟨tab_ti, tab_eq⟩ (fns_cons c_laws_toOp (fns_nil _)) mixed Try.func25 (by kernel_rfl) (by kernel_rfl) (fun x => by kernel_rfl)

def s_laws_toAddress : Sig := { params := [.val true y85], res := [.val true y93] }
noncomputable def e_laws_toAddress : Entry := ⟨s_laws_toAddress, fun a => D.laws_toAddress a⟩
noncomputable def v_laws_toAddress : Env := { ti := look tab, Γ := fns [], loop := fun _ => none, cut := fun _ => none, deep := fun _ => false }
theorem c_laws_toAddress : Contract Try.prog 60 e_laws_toAddress.sig e_laws_toAddress.F :=
  den_is (E := v_laws_toAddress) ⟨tab_ti, tab_eq⟩ (fns_nil _) mixed Try.func60 (by kernel_rfl) (by kernel_rfl) (fun x => by kernel_rfl)

def s_laws_toEntry : Sig := { params := [.val true y170], res := [.val true y158] }
noncomputable def e_laws_toEntry : Entry := ⟨s_laws_toEntry, fun a => D.laws_toEntry a⟩
noncomputable def v_laws_toEntry : Env := { ti := look tab, Γ := fns [(60, [], e_laws_toAddress)], loop := fun _ => none, cut := fun _ => none, deep := fun _ => false }
theorem c_laws_toEntry : Contract Try.prog 120 e_laws_toEntry.sig e_laws_toEntry.F :=
  den_is (E := v_laws_toEntry) ⟨tab_ti, tab_eq⟩ (fns_cons c_laws_toAddress (fns_nil _)) mixed Try.func120 (by kernel_rfl) (by kernel_rfl) (fun x => by kernel_rfl)

def s_laws_toEntryS : Sig := { params := [.val false y49], res := [.row 158 y158 false] }
noncomputable def e_laws_toEntryS : Entry := ⟨s_laws_toEntryS, fun a => D.laws_toEntryS a⟩
noncomputable def v_laws_toEntryS : Env := { ti := look tab, Γ := fns [(120, [], e_laws_toEntry)], loop := fun b => match b with | 0 => some [.slot 4 (.int .i64), .vec 3 158 y158 false] | _ => none, cut := fun _ => none, deep := fun _ => false }
theorem c_laws_toEntryS : Contract Try.prog 37 e_laws_toEntryS.sig e_laws_toEntryS.F :=
  den_is (E := v_laws_toEntryS) ⟨tab_ti, tab_eq⟩ (fns_cons c_laws_toEntry (fns_nil _)) mixed Try.func37 (by kernel_rfl) (by kernel_rfl) (fun x => by kernel_rfl)

def s_laws_toIntS : Sig := { params := [.val false y24], res := [.row 3 y3 false] }
noncomputable def e_laws_toIntS : Entry := ⟨s_laws_toIntS, fun a => D.laws_toIntS a⟩
noncomputable def v_laws_toIntS : Env := { ti := look tab, Γ := fns [], loop := fun b => match b with | 0 => some [.slot 4 (.int .i64), .vec 3 3 y3 false] | _ => none, cut := fun _ => none, deep := fun _ => false }
theorem c_laws_toIntS : Contract Try.prog 111 e_laws_toIntS.sig e_laws_toIntS.F :=
  den_is (E := v_laws_toIntS) ⟨tab_ti, tab_eq⟩ (fns_nil _) mixed Try.func111 (by kernel_rfl) (by kernel_rfl) (fun x => by kernel_rfl)

def s_laws_toResource : Sig := { params := [.val true y173], res := [.val false y3, .row 3 y3 false, .val false y3, .val false y3, .val false y3], rgroups := [some 5] }
noncomputable def e_laws_toResource : Entry := ⟨s_laws_toResource, fun a => D.laws_toResource a⟩
noncomputable def v_laws_toResource : Env := { ti := look tab, Γ := fns [(111, [], e_laws_toIntS), (60, [], e_laws_toAddress)], loop := fun _ => none, cut := fun _ => none, deep := fun _ => false }
theorem c_laws_toResource : Contract Try.prog 202 e_laws_toResource.sig e_laws_toResource.F :=
  den_is (E := v_laws_toResource) ⟨tab_ti, tab_eq⟩ (fns_cons c_laws_toIntS (fns_cons c_laws_toAddress (fns_nil _))) mixed Try.func202 (by kernel_rfl) (by kernel_rfl) (fun x => by kernel_rfl)

def s_laws_toCapture : Sig := { params := [.val true y175], res := [.val false y3, .val false y3, .val false y3, .val false y3, .val false y3, .row 3 y3 false, .val false y3, .val false y3, .val false y3], rgroups := [some 9] }
noncomputable def e_laws_toCapture : Entry := ⟨s_laws_toCapture, fun a => D.laws_toCapture a⟩
noncomputable def v_laws_toCapture : Env := { ti := look tab, Γ := fns [(60, [], e_laws_toAddress), (202, [], e_laws_toResource)], loop := fun _ => none, cut := fun _ => none, deep := fun _ => false }
theorem c_laws_toCapture : Contract Try.prog 124 e_laws_toCapture.sig e_laws_toCapture.F :=
  den_is (E := v_laws_toCapture) ⟨tab_ti, tab_eq⟩ (fns_cons c_laws_toAddress (fns_cons c_laws_toResource (fns_nil _))) mixed Try.func124 (by kernel_rfl) (by kernel_rfl) (fun x => by kernel_rfl)

def s_laws_toCaptureS : Sig := { params := [.val false y54], res := [.row 139 y139 true] }
noncomputable def e_laws_toCaptureS : Entry := ⟨s_laws_toCaptureS, fun a => D.laws_toCaptureS a⟩
noncomputable def v_laws_toCaptureS : Env := { ti := look tab, Γ := fns [(124, [], e_laws_toCapture)], loop := fun b => match b with | 0 => some [.slot 4 (.int .i64), .vec 3 139 y139 true] | _ => none, cut := fun _ => none, deep := fun t => Nat.beq t 7 }
theorem c_laws_toCaptureS : Contract Try.prog 43 e_laws_toCaptureS.sig e_laws_toCaptureS.F :=
  den_is (E := v_laws_toCaptureS) ⟨tab_ti, tab_eq⟩ (fns_cons c_laws_toCapture (fns_nil _)) mixed Try.func43 (by kernel_rfl) (by kernel_rfl) (fun x => by kernel_rfl)

def s_laws_toContainer : Sig := { params := [.val true y120], res := [.row 162 y162 false, .row 158 y158 false, .row 139 y139 true, .val false y3], rgroups := [some 4] }
noncomputable def e_laws_toContainer : Entry := ⟨s_laws_toContainer, fun a => D.laws_toContainer a⟩
noncomputable def v_laws_toContainer : Env := { ti := look tab, Γ := fns [(25, [], e_laws_toOpS), (37, [], e_laws_toEntryS), (43, [], e_laws_toCaptureS)], loop := fun _ => none, cut := fun _ => none, deep := fun _ => false }
theorem c_laws_toContainer : Contract Try.prog 85 e_laws_toContainer.sig e_laws_toContainer.F :=
  den_is (E := v_laws_toContainer) ⟨tab_ti, tab_eq⟩ (fns_cons c_laws_toOpS (fns_cons c_laws_toEntryS (fns_cons c_laws_toCaptureS (fns_nil _)))) mixed Try.func85 (by kernel_rfl) (by kernel_rfl) (fun x => by kernel_rfl)

def s_spec_l11Zeros : Sig := { params := [.val false y3], res := [.row 3 y3 false] }
noncomputable def e_spec_l11Zeros : Entry := ⟨s_spec_l11Zeros, fun a => D.spec_l11Zeros a⟩
noncomputable def v_spec_l11Zeros : Env := { ti := look tab, Γ := fns [], loop := fun b => match b with | 0 => some [.slot 3 (.own 3 y3 false), .slot 4 (.int .i64)] | _ => none, cut := fun _ => none, deep := fun _ => false }
theorem c_spec_l11Zeros : Contract Try.prog 183 e_spec_l11Zeros.sig e_spec_l11Zeros.F :=
  den_is (E := v_spec_l11Zeros) ⟨tab_ti, tab_eq⟩ (fns_nil _) mixed Try.func183 (by kernel_rfl) (by kernel_rfl) (fun x => by kernel_rfl)

def s_spec_StartState : Sig := { params := [], res := [.val false y3, .row 3 y3 false, .row 3 y3 false, .row 3 y3 false], rgroups := [some 4] }
noncomputable def e_spec_StartState : Entry := ⟨s_spec_StartState, fun _ => D.spec_StartState⟩
noncomputable def v_spec_StartState : Env := { ti := look tab, Γ := fns [(183, [], e_spec_l11Zeros)], loop := fun _ => none, cut := fun _ => none, deep := fun _ => false }
theorem c_spec_StartState : Contract Try.prog 105 e_spec_StartState.sig e_spec_StartState.F :=
  den_is (E := v_spec_StartState) ⟨tab_ti, tab_eq⟩ (fns_cons c_spec_l11Zeros (fns_nil _)) mixed Try.func105 (by kernel_rfl) (by kernel_rfl) (fun x => by kernel_rfl)

def s_spec_l1In : Sig := { params := [.val false y3, .val false y3, .val false y3], res := [.val false y4] }
noncomputable def e_spec_l1In : Entry := ⟨s_spec_l1In, fun a => D.spec_l1In a.1 a.2.1 a.2.2⟩
noncomputable def v_spec_l1In : Env := { ti := look tab, Γ := fns [], loop := fun _ => none, cut := fun _ => none, deep := fun _ => false }
theorem c_spec_l1In : Contract Try.prog 152 e_spec_l1In.sig e_spec_l1In.F :=
  den_is (E := v_spec_l1In) ⟨tab_ti, tab_eq⟩ (fns_nil _) mixed Try.func152 (by kernel_rfl) (by kernel_rfl) (fun x => by kernel_rfl)

def s_spec_l10Ok : Sig := { params := [.val true y162], res := [.val false y4] }
noncomputable def e_spec_l10Ok : Entry := ⟨s_spec_l10Ok, fun a => D.spec_l10Ok a⟩
noncomputable def v_spec_l10Ok : Env := { ti := look tab, Γ := fns [(152, [], e_spec_l1In)], loop := fun _ => none, cut := fun _ => none, deep := fun _ => false }
theorem c_spec_l10Ok : Contract Try.prog 182 e_spec_l10Ok.sig e_spec_l10Ok.F :=
  den_is (E := v_spec_l10Ok) ⟨tab_ti, tab_eq⟩ (fns_cons c_spec_l1In (fns_nil _)) mixed Try.func182 (by kernel_rfl) (by kernel_rfl) (fun x => by kernel_rfl)

def s_spec_IsScript : Sig := { params := [.val false y40], res := [.val false y4] }
noncomputable def e_spec_IsScript : Entry := ⟨s_spec_IsScript, fun a => D.spec_IsScript a⟩
noncomputable def v_spec_IsScript : Env := { ti := look tab, Γ := fns [(182, [], e_spec_l10Ok)], loop := fun b => match b with | 0 => some [.slot 3 (.int .i64)] | _ => none, cut := fun _ => none, deep := fun _ => false }
theorem c_spec_IsScript : Contract Try.prog 104 e_spec_IsScript.sig e_spec_IsScript.F :=
  den_is (E := v_spec_IsScript) ⟨tab_ti, tab_eq⟩ (fns_cons c_spec_l10Ok (fns_nil _)) mixed Try.func104 (by kernel_rfl) (by kernel_rfl) (fun x => by kernel_rfl)

def s_spec_Asks : Sig := { params := [.val false y3], res := [.val false y4] }
noncomputable def e_spec_Asks : Entry := ⟨s_spec_Asks, fun a => D.spec_Asks a⟩
noncomputable def v_spec_Asks : Env := { ti := look tab, Γ := fns [(152, [], e_spec_l1In)], loop := fun _ => none, cut := fun _ => none, deep := fun _ => false }
theorem c_spec_Asks : Contract Try.prog 185 e_spec_Asks.sig e_spec_Asks.F :=
  den_is (E := v_spec_Asks) ⟨tab_ti, tab_eq⟩ (fns_cons c_spec_l1In (fns_nil _)) mixed Try.func185 (by kernel_rfl) (by kernel_rfl) (fun x => by kernel_rfl)

def s_spec_IsAddress : Sig := { params := [.val true y93], res := [.val false y4] }
noncomputable def e_spec_IsAddress : Entry := ⟨s_spec_IsAddress, fun a => D.spec_IsAddress a⟩
noncomputable def v_spec_IsAddress : Env := { ti := look tab, Γ := fns [(152, [], e_spec_l1In)], loop := fun _ => none, cut := fun _ => none, deep := fun _ => false }
theorem c_spec_IsAddress : Contract Try.prog 189 e_spec_IsAddress.sig e_spec_IsAddress.F :=
  den_is (E := v_spec_IsAddress) ⟨tab_ti, tab_eq⟩ (fns_cons c_spec_l1In (fns_nil _)) mixed Try.func189 (by kernel_rfl) (by kernel_rfl) (fun x => by kernel_rfl)

def s_spec_AreEntries : Sig := { params := [.val false y37], res := [.val false y4] }
noncomputable def e_spec_AreEntries : Entry := ⟨s_spec_AreEntries, fun a => D.spec_AreEntries a⟩
noncomputable def v_spec_AreEntries : Env := { ti := look tab, Γ := fns [(185, [], e_spec_Asks), (152, [], e_spec_l1In), (189, [], e_spec_IsAddress)], loop := fun b => match b with | 0 => some [.slot 3 (.int .i64)] | _ => none, cut := fun _ => none, deep := fun _ => false }
theorem c_spec_AreEntries : Contract Try.prog 109 e_spec_AreEntries.sig e_spec_AreEntries.F :=
  den_is (E := v_spec_AreEntries) ⟨tab_ti, tab_eq⟩ (fns_cons c_spec_Asks (fns_cons c_spec_l1In (fns_cons c_spec_IsAddress (fns_nil _)))) mixed Try.func109 (by kernel_rfl) (by kernel_rfl) (fun x => by kernel_rfl)

def s_spec_IsDone : Sig := { params := [.val false y40, .val true y123], res := [.val false y4] }
noncomputable def e_spec_IsDone : Entry := ⟨s_spec_IsDone, fun a => D.spec_IsDone a.1 a.2⟩
noncomputable def v_spec_IsDone : Env := { ti := look tab, Γ := fns [], loop := fun _ => none, cut := fun _ => none, deep := fun _ => false }
theorem c_spec_IsDone : Contract Try.prog 106 e_spec_IsDone.sig e_spec_IsDone.F :=
  den_is (E := v_spec_IsDone) ⟨tab_ti, tab_eq⟩ (fns_nil _) mixed Try.func106 (by kernel_rfl) (by kernel_rfl) (fun x => by kernel_rfl)

def s_spec_l11All : Sig := { params := [.val false y24, .val false y3], res := [.val false y4] }
noncomputable def e_spec_l11All : Entry := ⟨s_spec_l11All, fun a => D.spec_l11All a.1 a.2⟩
noncomputable def v_spec_l11All : Env := { ti := look tab, Γ := fns [(152, [], e_spec_l1In)], loop := fun b => match b with | 0 => some [.slot 5 (.int .i64)] | _ => none, cut := fun _ => none, deep := fun _ => false }
theorem c_spec_l11All : Contract Try.prog 243 e_spec_l11All.sig e_spec_l11All.F :=
  den_is (E := v_spec_l11All) ⟨tab_ti, tab_eq⟩ (fns_cons c_spec_l1In (fns_nil _)) mixed Try.func243 (by kernel_rfl) (by kernel_rfl) (fun x => by kernel_rfl)

def s_spec_IsState : Sig := { params := [.val true y123], res := [.val false y4] }
noncomputable def e_spec_IsState : Entry := ⟨s_spec_IsState, fun a => D.spec_IsState a⟩
noncomputable def v_spec_IsState : Env := { ti := look tab, Γ := fns [(152, [], e_spec_l1In), (243, [], e_spec_l11All)], loop := fun _ => none, cut := fun _ => none, deep := fun _ => false }
theorem c_spec_IsState : Contract Try.prog 228 e_spec_IsState.sig e_spec_IsState.F :=
  den_is (E := v_spec_IsState) ⟨tab_ti, tab_eq⟩ (fns_cons c_spec_l1In (fns_cons c_spec_l11All (fns_nil _))) mixed Try.func228 (by kernel_rfl) (by kernel_rfl) (fun x => by kernel_rfl)

def s_spec_l11Can : Sig := { params := [.val false y40, .val true y123], res := [.val false y4] }
noncomputable def e_spec_l11Can : Entry := ⟨s_spec_l11Can, fun a => D.spec_l11Can a.1 a.2⟩
noncomputable def v_spec_l11Can : Env := { ti := look tab, Γ := fns [(104, [], e_spec_IsScript), (228, [], e_spec_IsState)], loop := fun _ => none, cut := fun _ => none, deep := fun _ => false }
theorem c_spec_l11Can : Contract Try.prog 184 e_spec_l11Can.sig e_spec_l11Can.F :=
  den_is (E := v_spec_l11Can) ⟨tab_ti, tab_eq⟩ (fns_cons c_spec_IsScript (fns_cons c_spec_IsState (fns_nil _))) mixed Try.func184 (by kernel_rfl) (by kernel_rfl) (fun x => by kernel_rfl)

def s_spec_WantOf : Sig := { params := [.val false y40, .val true y123], res := [.val true y155] }
noncomputable def e_spec_WantOf : Entry := ⟨s_spec_WantOf, fun a => D.spec_WantOf a.1 a.2⟩
noncomputable def v_spec_WantOf : Env := { ti := look tab, Γ := fns [(184, [], e_spec_l11Can), (185, [], e_spec_Asks)], loop := fun _ => none, cut := fun _ => none, deep := fun _ => false }
theorem c_spec_WantOf : Contract Try.prog 107 e_spec_WantOf.sig e_spec_WantOf.F :=
  den_is (E := v_spec_WantOf) ⟨tab_ti, tab_eq⟩ (fns_cons c_spec_l11Can (fns_cons c_spec_Asks (fns_nil _))) mixed Try.func107 (by kernel_rfl) (by kernel_rfl) (fun x => by kernel_rfl)

def s_spec_l11Copy : Sig := { params := [.val true y123], res := [.val false y3, .row 3 y3 false, .row 3 y3 false, .row 3 y3 false], rgroups := [some 4] }
noncomputable def e_spec_l11Copy : Entry := ⟨s_spec_l11Copy, fun a => D.spec_l11Copy a⟩
noncomputable def v_spec_l11Copy : Env := { ti := look tab, Γ := fns [], loop := fun _ => none, cut := fun _ => none, deep := fun _ => false }
theorem c_spec_l11Copy : Contract Try.prog 186 e_spec_l11Copy.sig e_spec_l11Copy.F :=
  den_is (E := v_spec_l11Copy) ⟨tab_ti, tab_eq⟩ (fns_nil _) mixed Try.func186 (by kernel_rfl) (by kernel_rfl) (fun x => by kernel_rfl)

def s_spec_Min : Sig := { params := [.val false y3, .val false y3], res := [.val false y3] }
noncomputable def e_spec_Min : Entry := ⟨s_spec_Min, fun a => D.spec_Min a.1 a.2⟩
noncomputable def v_spec_Min : Env := { ti := look tab, Γ := fns [], loop := fun _ => none, cut := fun _ => none, deep := fun _ => false }
theorem c_spec_Min : Contract Try.prog 188 e_spec_Min.sig e_spec_Min.F :=
  den_is (E := v_spec_Min) ⟨tab_ti, tab_eq⟩ (fns_nil _) mixed Try.func188 (by kernel_rfl) (by kernel_rfl) (fun x => by kernel_rfl)

def s_spec_Max : Sig := { params := [.val false y3, .val false y3], res := [.val false y3] }
noncomputable def e_spec_Max : Entry := ⟨s_spec_Max, fun a => D.spec_Max a.1 a.2⟩
noncomputable def v_spec_Max : Env := { ti := look tab, Γ := fns [], loop := fun _ => none, cut := fun _ => none, deep := fun _ => false }
theorem c_spec_Max : Contract Try.prog 187 e_spec_Max.sig e_spec_Max.F :=
  den_is (E := v_spec_Max) ⟨tab_ti, tab_eq⟩ (fns_nil _) mixed Try.func187 (by kernel_rfl) (by kernel_rfl) (fun x => by kernel_rfl)

def s_spec_StepState : Sig := { params := [.val false y40, .val true y123, .val false y3], res := [.val false y3, .row 3 y3 false, .row 3 y3 false, .row 3 y3 false], rgroups := [some 4] }
noncomputable def e_spec_StepState : Entry := ⟨s_spec_StepState, fun a => D.spec_StepState a.1 a.2.1 a.2.2⟩
noncomputable def v_spec_StepState : Env := { ti := look tab, Γ := fns [(186, [], e_spec_l11Copy), (184, [], e_spec_l11Can), (188, [], e_spec_Min), (187, [], e_spec_Max)], loop := fun _ => none, cut := fun _ => none, deep := fun _ => false }
theorem c_spec_StepState : Contract Try.prog 108 e_spec_StepState.sig e_spec_StepState.F :=
  den_is (E := v_spec_StepState) ⟨tab_ti, tab_eq⟩ (fns_cons c_spec_l11Copy (fns_cons c_spec_l11Can (fns_cons c_spec_Min (fns_cons c_spec_Max (fns_nil _))))) mixed Try.func108 (by kernel_rfl) (by kernel_rfl) (fun x => by kernel_rfl)

def s_spec_l14Run : Sig := { params := [.val false y40, .val false y37], res := [.val true y125, .row 123 y123 false] }
noncomputable def e_spec_l14Run : Entry := ⟨s_spec_l14Run, fun a => D.spec_l14Run a.1 a.2⟩
noncomputable def v_spec_l14Run : Env := { ti := look tab, Γ := fns [(105, [], e_spec_StartState), (104, [], e_spec_IsScript), (109, [], e_spec_AreEntries), (106, [], e_spec_IsDone), (107, [], e_spec_WantOf), (108, [], e_spec_StepState)], loop := fun b => match b with | 0 => some [.slot 7 (.own 123 y123 false), .slot 8 (.int .i64), .box 4 [.int .i64, .int .i64, .int .i64, .ro 3 y3, .ro 3 y3, .ro 3 y3], .box 6 [.int .i64, .ro 3 y3, .ro 3 y3, .ro 3 y3]] | _ => none, cut := fun _ => none, deep := fun _ => false }
theorem c_spec_l14Run : Contract Try.prog 219 e_spec_l14Run.sig e_spec_l14Run.F :=
  den_is (E := v_spec_l14Run) ⟨tab_ti, tab_eq⟩ (fns_cons c_spec_StartState (fns_cons c_spec_IsScript (fns_cons c_spec_AreEntries (fns_cons c_spec_IsDone (fns_cons c_spec_WantOf (fns_cons c_spec_StepState (fns_nil _))))))) mixed Try.func219 (by kernel_rfl) (by kernel_rfl) (fun x => by kernel_rfl)

def s_spec_Replay : Sig := { params := [.val false y40, .val false y37], res := [.val false y3, .val false y3, .val false y3, .row 3 y3 false, .row 3 y3 false, .row 3 y3 false], rgroups := [some 6] }
noncomputable def e_spec_Replay : Entry := ⟨s_spec_Replay, fun a => D.spec_Replay a.1 a.2⟩
noncomputable def v_spec_Replay : Env := { ti := look tab, Γ := fns [(219, [], e_spec_l14Run), (186, [], e_spec_l11Copy)], loop := fun _ => none, cut := fun _ => none, deep := fun _ => false }
theorem c_spec_Replay : Contract Try.prog 163 e_spec_Replay.sig e_spec_Replay.F :=
  den_is (E := v_spec_Replay) ⟨tab_ti, tab_eq⟩ (fns_cons c_spec_l14Run (fns_cons c_spec_l11Copy (fns_nil _))) mixed Try.func163 (by kernel_rfl) (by kernel_rfl) (fun x => by kernel_rfl)

def s_spec_PlayContainer : Sig := { params := [.val true y101], res := [.val false y3, .val false y3, .val false y3, .row 3 y3 false, .row 3 y3 false, .row 3 y3 false], rgroups := [some 6] }
noncomputable def e_spec_PlayContainer : Entry := ⟨s_spec_PlayContainer, fun a => D.spec_PlayContainer a⟩
noncomputable def v_spec_PlayContainer : Env := { ti := look tab, Γ := fns [(163, [], e_spec_Replay)], loop := fun _ => none, cut := fun _ => none, deep := fun _ => false }
theorem c_spec_PlayContainer : Contract Try.prog 84 e_spec_PlayContainer.sig e_spec_PlayContainer.F :=
  den_is (E := v_spec_PlayContainer) ⟨tab_ti, tab_eq⟩ (fns_cons c_spec_Replay (fns_nil _)) mixed Try.func84 (by kernel_rfl) (by kernel_rfl) (fun x => by kernel_rfl)

def s_impl_StartState : Sig := { params := [], res := [.val false y3, .row 3 y3 false, .row 3 y3 false, .row 3 y3 false], rgroups := [some 4] }
noncomputable def e_impl_StartState : Entry := ⟨s_impl_StartState, fun _ => D.impl_StartState⟩
noncomputable def v_impl_StartState : Env := { ti := look tab, Γ := fns [], loop := fun _ => none, cut := fun _ => none, deep := fun _ => false }
theorem c_impl_StartState : Contract Try.prog 113 e_impl_StartState.sig e_impl_StartState.F :=
  den_is (E := v_impl_StartState) ⟨tab_ti, tab_eq⟩ (fns_nil _) mixed Try.func113 (by kernel_rfl) (by kernel_rfl) (fun x => by kernel_rfl)

def s_impl_at : Sig := { params := [.val false y3, .val false y3], res := [.val false y4] }
noncomputable def e_impl_at : Entry := ⟨s_impl_at, fun a => D.impl_at a.1 a.2⟩
noncomputable def v_impl_at : Env := { ti := look tab, Γ := fns [], loop := fun _ => none, cut := fun _ => none, deep := fun _ => false }
theorem c_impl_at : Contract Try.prog 230 e_impl_at.sig e_impl_at.F :=
  den_is (E := v_impl_at) ⟨tab_ti, tab_eq⟩ (fns_nil _) mixed Try.func230 (by kernel_rfl) (by kernel_rfl) (fun x => by kernel_rfl)

def s_impl_InRange : Sig := { params := [.val false y3, .val false y3, .val false y3], res := [.val false y4] }
noncomputable def e_impl_InRange : Entry := ⟨s_impl_InRange, fun a => D.impl_InRange a.1 a.2.1 a.2.2⟩
noncomputable def v_impl_InRange : Env := { ti := look tab, Γ := fns [], loop := fun _ => none, cut := fun _ => none, deep := fun _ => false }
theorem c_impl_InRange : Contract Try.prog 156 e_impl_InRange.sig e_impl_InRange.F :=
  den_is (E := v_impl_InRange) ⟨tab_ti, tab_eq⟩ (fns_nil _) mixed Try.func156 (by kernel_rfl) (by kernel_rfl) (fun x => by kernel_rfl)

def s_impl_isOp : Sig := { params := [.val true y162], res := [.val false y4] }
noncomputable def e_impl_isOp : Entry := ⟨s_impl_isOp, fun a => D.impl_isOp a⟩
noncomputable def v_impl_isOp : Env := { ti := look tab, Γ := fns [(230, [], e_impl_at), (156, [], e_impl_InRange)], loop := fun _ => none, cut := fun _ => none, deep := fun _ => false }
theorem c_impl_isOp : Contract Try.prog 192 e_impl_isOp.sig e_impl_isOp.F :=
  den_is (E := v_impl_isOp) ⟨tab_ti, tab_eq⟩ (fns_cons c_impl_at (fns_cons c_impl_InRange (fns_nil _))) mixed Try.func192 (by kernel_rfl) (by kernel_rfl) (fun x => by kernel_rfl)

def s_impl_IsScript_1 : Sig := { params := [.val true y162], res := [.val false y4] }
noncomputable def e_impl_IsScript_1 : Entry := ⟨s_impl_IsScript_1, fun a => D.impl_IsScript_1 a⟩
noncomputable def v_impl_IsScript_1 : Env := { ti := look tab, Γ := fns [(192, [], e_impl_isOp)], loop := fun _ => none, cut := fun _ => none, deep := fun _ => false }
theorem c_impl_IsScript_1 : Contract Try.prog 191 e_impl_IsScript_1.sig e_impl_IsScript_1.F :=
  den_is (E := v_impl_IsScript_1) ⟨tab_ti, tab_eq⟩ (fns_cons c_impl_isOp (fns_nil _)) mixed Try.func191 (by kernel_rfl) (by kernel_rfl) (fun x => by kernel_rfl)

def s_slices_IndexFunc_Op_impl_IsScript_1 : Sig := { params := [.val false y40, .fn 191 []], res := [.val false y3] }
noncomputable def e_slices_IndexFunc_Op_impl_IsScript_1 : Entry := ⟨s_slices_IndexFunc_Op_impl_IsScript_1, fun a => D.slices_IndexFunc_Op_impl_IsScript_1 a.1⟩
noncomputable def v_slices_IndexFunc_Op_impl_IsScript_1 : Env := { ti := look tab, Γ := fns [(191, [], e_impl_IsScript_1)], loop := fun b => match b with | 0 => some [.slot 8 (.int .i64)] | _ => none, cut := fun _ => none, deep := fun _ => false }
theorem c_slices_IndexFunc_Op_impl_IsScript_1 : Contract Try.prog 229 e_slices_IndexFunc_Op_impl_IsScript_1.sig e_slices_IndexFunc_Op_impl_IsScript_1.F :=
  den_is (E := v_slices_IndexFunc_Op_impl_IsScript_1) ⟨tab_ti, tab_eq⟩ (fns_cons c_impl_IsScript_1 (fns_nil _)) mixed Try.func229 (by kernel_rfl) (by kernel_rfl) (fun x => by kernel_rfl)

def s_slices_ContainsFunc_Op_impl_IsScript_1 : Sig := { params := [.val false y40, .fn 191 []], res := [.val false y4] }
noncomputable def e_slices_ContainsFunc_Op_impl_IsScript_1 : Entry := ⟨s_slices_ContainsFunc_Op_impl_IsScript_1, fun a => D.slices_ContainsFunc_Op_impl_IsScript_1 a.1⟩
noncomputable def v_slices_ContainsFunc_Op_impl_IsScript_1 : Env := { ti := look tab, Γ := fns [(229, [191], e_slices_IndexFunc_Op_impl_IsScript_1)], loop := fun _ => none, cut := fun _ => none, deep := fun _ => false }
theorem c_slices_ContainsFunc_Op_impl_IsScript_1 : Contract Try.prog 190 e_slices_ContainsFunc_Op_impl_IsScript_1.sig e_slices_ContainsFunc_Op_impl_IsScript_1.F :=
  den_is (E := v_slices_ContainsFunc_Op_impl_IsScript_1) ⟨tab_ti, tab_eq⟩ (fns_cons c_slices_IndexFunc_Op_impl_IsScript_1 (fns_nil _)) mixed Try.func190 (by kernel_rfl) (by kernel_rfl) (fun x => by kernel_rfl)

def s_impl_IsScript : Sig := { params := [.val false y40], res := [.val false y4] }
noncomputable def e_impl_IsScript : Entry := ⟨s_impl_IsScript, fun a => D.impl_IsScript a⟩
noncomputable def v_impl_IsScript : Env := { ti := look tab, Γ := fns [(190, [191], e_slices_ContainsFunc_Op_impl_IsScript_1)], loop := fun _ => none, cut := fun _ => none, deep := fun _ => false }
theorem c_impl_IsScript : Contract Try.prog 112 e_impl_IsScript.sig e_impl_IsScript.F :=
  den_is (E := v_impl_IsScript) ⟨tab_ti, tab_eq⟩ (fns_cons c_slices_ContainsFunc_Op_impl_IsScript_1 (fns_nil _)) mixed Try.func112 (by kernel_rfl) (by kernel_rfl) (fun x => by kernel_rfl)

def s_impl_IsAddress : Sig := { params := [.val true y93], res := [.val false y4] }
noncomputable def e_impl_IsAddress : Entry := ⟨s_impl_IsAddress, fun a => D.impl_IsAddress a⟩
noncomputable def v_impl_IsAddress : Env := { ti := look tab, Γ := fns [(156, [], e_impl_InRange)], loop := fun _ => none, cut := fun _ => none, deep := fun _ => false }
theorem c_impl_IsAddress : Contract Try.prog 198 e_impl_IsAddress.sig e_impl_IsAddress.F :=
  den_is (E := v_impl_IsAddress) ⟨tab_ti, tab_eq⟩ (fns_cons c_impl_InRange (fns_nil _)) mixed Try.func198 (by kernel_rfl) (by kernel_rfl) (fun x => by kernel_rfl)

def s_impl_Asks : Sig := { params := [.val false y3], res := [.val false y4] }
noncomputable def e_impl_Asks : Entry := ⟨s_impl_Asks, fun a => D.impl_Asks a⟩
noncomputable def v_impl_Asks : Env := { ti := look tab, Γ := fns [(156, [], e_impl_InRange)], loop := fun _ => none, cut := fun _ => none, deep := fun _ => false }
theorem c_impl_Asks : Contract Try.prog 194 e_impl_Asks.sig e_impl_Asks.F :=
  den_is (E := v_impl_Asks) ⟨tab_ti, tab_eq⟩ (fns_cons c_impl_InRange (fns_nil _)) mixed Try.func194 (by kernel_rfl) (by kernel_rfl) (fun x => by kernel_rfl)

def s_impl_AreEntries_1 : Sig := { params := [.val true y158], res := [.val false y4] }
noncomputable def e_impl_AreEntries_1 : Entry := ⟨s_impl_AreEntries_1, fun a => D.impl_AreEntries_1 a⟩
noncomputable def v_impl_AreEntries_1 : Env := { ti := look tab, Γ := fns [(198, [], e_impl_IsAddress), (156, [], e_impl_InRange), (194, [], e_impl_Asks)], loop := fun _ => none, cut := fun _ => none, deep := fun _ => false }
theorem c_impl_AreEntries_1 : Contract Try.prog 197 e_impl_AreEntries_1.sig e_impl_AreEntries_1.F :=
  den_is (E := v_impl_AreEntries_1) ⟨tab_ti, tab_eq⟩ (fns_cons c_impl_IsAddress (fns_cons c_impl_InRange (fns_cons c_impl_Asks (fns_nil _)))) mixed Try.func197 (by kernel_rfl) (by kernel_rfl) (fun x => by kernel_rfl)

def s_slices_IndexFunc_Entry_impl_AreEntries_1 : Sig := { params := [.val false y37, .fn 197 []], res := [.val false y3] }
noncomputable def e_slices_IndexFunc_Entry_impl_AreEntries_1 : Entry := ⟨s_slices_IndexFunc_Entry_impl_AreEntries_1, fun a => D.slices_IndexFunc_Entry_impl_AreEntries_1 a.1⟩
noncomputable def v_slices_IndexFunc_Entry_impl_AreEntries_1 : Env := { ti := look tab, Γ := fns [(197, [], e_impl_AreEntries_1)], loop := fun b => match b with | 0 => some [.slot 8 (.int .i64)] | _ => none, cut := fun _ => none, deep := fun _ => false }
theorem c_slices_IndexFunc_Entry_impl_AreEntries_1 : Contract Try.prog 233 e_slices_IndexFunc_Entry_impl_AreEntries_1.sig e_slices_IndexFunc_Entry_impl_AreEntries_1.F :=
  den_is (E := v_slices_IndexFunc_Entry_impl_AreEntries_1) ⟨tab_ti, tab_eq⟩ (fns_cons c_impl_AreEntries_1 (fns_nil _)) mixed Try.func233 (by kernel_rfl) (by kernel_rfl) (fun x => by kernel_rfl)

def s_slices_ContainsFunc_Entry_impl_AreEntries_1 : Sig := { params := [.val false y37, .fn 197 []], res := [.val false y4] }
noncomputable def e_slices_ContainsFunc_Entry_impl_AreEntries_1 : Entry := ⟨s_slices_ContainsFunc_Entry_impl_AreEntries_1, fun a => D.slices_ContainsFunc_Entry_impl_AreEntries_1 a.1⟩
noncomputable def v_slices_ContainsFunc_Entry_impl_AreEntries_1 : Env := { ti := look tab, Γ := fns [(233, [197], e_slices_IndexFunc_Entry_impl_AreEntries_1)], loop := fun _ => none, cut := fun _ => none, deep := fun _ => false }
theorem c_slices_ContainsFunc_Entry_impl_AreEntries_1 : Contract Try.prog 196 e_slices_ContainsFunc_Entry_impl_AreEntries_1.sig e_slices_ContainsFunc_Entry_impl_AreEntries_1.F :=
  den_is (E := v_slices_ContainsFunc_Entry_impl_AreEntries_1) ⟨tab_ti, tab_eq⟩ (fns_cons c_slices_IndexFunc_Entry_impl_AreEntries_1 (fns_nil _)) mixed Try.func196 (by kernel_rfl) (by kernel_rfl) (fun x => by kernel_rfl)

def s_impl_AreEntries : Sig := { params := [.val false y37], res := [.val false y4] }
noncomputable def e_impl_AreEntries : Entry := ⟨s_impl_AreEntries, fun a => D.impl_AreEntries a⟩
noncomputable def v_impl_AreEntries : Env := { ti := look tab, Γ := fns [(196, [197], e_slices_ContainsFunc_Entry_impl_AreEntries_1)], loop := fun _ => none, cut := fun _ => none, deep := fun _ => false }
theorem c_impl_AreEntries : Contract Try.prog 117 e_impl_AreEntries.sig e_impl_AreEntries.F :=
  den_is (E := v_impl_AreEntries) ⟨tab_ti, tab_eq⟩ (fns_cons c_slices_ContainsFunc_Entry_impl_AreEntries_1 (fns_nil _)) mixed Try.func117 (by kernel_rfl) (by kernel_rfl) (fun x => by kernel_rfl)

def s_impl_IsDone : Sig := { params := [.val false y40, .val true y123], res := [.val false y4] }
noncomputable def e_impl_IsDone : Entry := ⟨s_impl_IsDone, fun a => D.impl_IsDone a.1 a.2⟩
noncomputable def v_impl_IsDone : Env := { ti := look tab, Γ := fns [], loop := fun _ => none, cut := fun _ => none, deep := fun _ => false }
theorem c_impl_IsDone : Contract Try.prog 114 e_impl_IsDone.sig e_impl_IsDone.F :=
  den_is (E := v_impl_IsDone) ⟨tab_ti, tab_eq⟩ (fns_nil _) mixed Try.func114 (by kernel_rfl) (by kernel_rfl) (fun x => by kernel_rfl)

def s_impl_allIn : Sig := { params := [.val false y24, .val false y3, .val false y3], res := [.val false y4] }
noncomputable def e_impl_allIn : Entry := ⟨s_impl_allIn, fun a => D.impl_allIn a.1 a.2.1 a.2.2⟩
noncomputable def v_impl_allIn : Env := { ti := look tab, Γ := fns [(156, [], e_impl_InRange)], loop := fun b => match b with | 0 => some [.slot 11 (.int .i64)] | _ => none, cut := fun _ => none, deep := fun _ => false }
theorem c_impl_allIn : Contract Try.prog 239 e_impl_allIn.sig e_impl_allIn.F :=
  den_is (E := v_impl_allIn) ⟨tab_ti, tab_eq⟩ (fns_cons c_impl_InRange (fns_nil _)) mixed Try.func239 (by kernel_rfl) (by kernel_rfl) (fun x => by kernel_rfl)

def s_impl_IsState : Sig := { params := [.val true y123], res := [.val false y4] }
noncomputable def e_impl_IsState : Entry := ⟨s_impl_IsState, fun a => D.impl_IsState a⟩
noncomputable def v_impl_IsState : Env := { ti := look tab, Γ := fns [(156, [], e_impl_InRange), (239, [], e_impl_allIn)], loop := fun _ => none, cut := fun _ => none, deep := fun _ => false }
theorem c_impl_IsState : Contract Try.prog 231 e_impl_IsState.sig e_impl_IsState.F :=
  den_is (E := v_impl_IsState) ⟨tab_ti, tab_eq⟩ (fns_cons c_impl_InRange (fns_cons c_impl_allIn (fns_nil _))) mixed Try.func231 (by kernel_rfl) (by kernel_rfl) (fun x => by kernel_rfl)

def s_impl_canStep : Sig := { params := [.val false y40, .val true y123], res := [.val false y4] }
noncomputable def e_impl_canStep : Entry := ⟨s_impl_canStep, fun a => D.impl_canStep a.1 a.2⟩
noncomputable def v_impl_canStep : Env := { ti := look tab, Γ := fns [(112, [], e_impl_IsScript), (231, [], e_impl_IsState)], loop := fun _ => none, cut := fun _ => none, deep := fun _ => false }
theorem c_impl_canStep : Contract Try.prog 193 e_impl_canStep.sig e_impl_canStep.F :=
  den_is (E := v_impl_canStep) ⟨tab_ti, tab_eq⟩ (fns_cons c_impl_IsScript (fns_cons c_impl_IsState (fns_nil _))) mixed Try.func193 (by kernel_rfl) (by kernel_rfl) (fun x => by kernel_rfl)

def s_impl_WantOf : Sig := { params := [.val false y40, .val true y123], res := [.val true y155] }
noncomputable def e_impl_WantOf : Entry := ⟨s_impl_WantOf, fun a => D.impl_WantOf a.1 a.2⟩
noncomputable def v_impl_WantOf : Env := { ti := look tab, Γ := fns [(193, [], e_impl_canStep), (194, [], e_impl_Asks)], loop := fun _ => none, cut := fun _ => none, deep := fun _ => false }
theorem c_impl_WantOf : Contract Try.prog 115 e_impl_WantOf.sig e_impl_WantOf.F :=
  den_is (E := v_impl_WantOf) ⟨tab_ti, tab_eq⟩ (fns_cons c_impl_canStep (fns_cons c_impl_Asks (fns_nil _))) mixed Try.func115 (by kernel_rfl) (by kernel_rfl) (fun x => by kernel_rfl)

def s_slices_Clone_int : Sig := { params := [.val false y24], res := [.row 3 y3 false] }
noncomputable def e_slices_Clone_int : Entry := ⟨s_slices_Clone_int, fun a => D.slices_Clone_int a⟩
noncomputable def v_slices_Clone_int : Env := { ti := look tab, Γ := fns [], loop := fun _ => none, cut := fun _ => none, deep := fun _ => false }
theorem c_slices_Clone_int : Contract Try.prog 232 e_slices_Clone_int.sig e_slices_Clone_int.F :=
  den_is (E := v_slices_Clone_int) ⟨tab_ti, tab_eq⟩ (fns_nil _) mixed Try.func232 (by kernel_rfl) (by kernel_rfl) (fun x => by kernel_rfl)

def s_impl_copyState : Sig := { params := [.val true y123], res := [.val false y3, .row 3 y3 false, .row 3 y3 false, .row 3 y3 false], rgroups := [some 4] }
noncomputable def e_impl_copyState : Entry := ⟨s_impl_copyState, fun a => D.impl_copyState a⟩
noncomputable def v_impl_copyState : Env := { ti := look tab, Γ := fns [(232, [], e_slices_Clone_int)], loop := fun _ => none, cut := fun _ => none, deep := fun _ => false }
theorem c_impl_copyState : Contract Try.prog 195 e_impl_copyState.sig e_impl_copyState.F :=
  den_is (E := v_impl_copyState) ⟨tab_ti, tab_eq⟩ (fns_cons c_slices_Clone_int (fns_nil _)) mixed Try.func195 (by kernel_rfl) (by kernel_rfl) (fun x => by kernel_rfl)

def s_impl_StepState : Sig := { params := [.val false y40, .val true y123, .val false y3], res := [.val false y3, .row 3 y3 false, .row 3 y3 false, .row 3 y3 false], rgroups := [some 4] }
noncomputable def e_impl_StepState : Entry := ⟨s_impl_StepState, fun a => D.impl_StepState a.1 a.2.1 a.2.2⟩
noncomputable def v_impl_StepState : Env := { ti := look tab, Γ := fns [(195, [], e_impl_copyState), (193, [], e_impl_canStep)], loop := fun _ => none, cut := fun _ => none, deep := fun _ => false }
theorem c_impl_StepState : Contract Try.prog 116 e_impl_StepState.sig e_impl_StepState.F :=
  den_is (E := v_impl_StepState) ⟨tab_ti, tab_eq⟩ (fns_cons c_impl_copyState (fns_cons c_impl_canStep (fns_nil _))) mixed Try.func116 (by kernel_rfl) (by kernel_rfl) (fun x => by kernel_rfl)

def s_impl_played : Sig := { params := [.val false y40, .val false y37], res := [.val true y125, .row 123 y123 false] }
noncomputable def e_impl_played : Entry := ⟨s_impl_played, fun a => D.impl_played a.1 a.2⟩
noncomputable def v_impl_played : Env := { ti := look tab, Γ := fns [(113, [], e_impl_StartState), (112, [], e_impl_IsScript), (117, [], e_impl_AreEntries), (114, [], e_impl_IsDone), (115, [], e_impl_WantOf), (116, [], e_impl_StepState)], loop := fun b => match b with | 0 => some [.slot 7 (.own 123 y123 false), .slot 8 (.int .i64), .box 4 [.int .i64, .int .i64, .int .i64, .ro 3 y3, .ro 3 y3, .ro 3 y3], .box 6 [.int .i64, .ro 3 y3, .ro 3 y3, .ro 3 y3]] | _ => none, cut := fun _ => none, deep := fun _ => false }
theorem c_impl_played : Contract Try.prog 220 e_impl_played.sig e_impl_played.F :=
  den_is (E := v_impl_played) ⟨tab_ti, tab_eq⟩ (fns_cons c_impl_StartState (fns_cons c_impl_IsScript (fns_cons c_impl_AreEntries (fns_cons c_impl_IsDone (fns_cons c_impl_WantOf (fns_cons c_impl_StepState (fns_nil _))))))) mixed Try.func220 (by kernel_rfl) (by kernel_rfl) (fun x => by kernel_rfl)

def s_impl_Replay : Sig := { params := [.val false y40, .val false y37], res := [.val false y3, .val false y3, .val false y3, .row 3 y3 false, .row 3 y3 false, .row 3 y3 false], rgroups := [some 6] }
noncomputable def e_impl_Replay : Entry := ⟨s_impl_Replay, fun a => D.impl_Replay a.1 a.2⟩
noncomputable def v_impl_Replay : Env := { ti := look tab, Γ := fns [(220, [], e_impl_played), (195, [], e_impl_copyState)], loop := fun _ => none, cut := fun _ => none, deep := fun _ => false }
theorem c_impl_Replay : Contract Try.prog 164 e_impl_Replay.sig e_impl_Replay.F :=
  den_is (E := v_impl_Replay) ⟨tab_ti, tab_eq⟩ (fns_cons c_impl_played (fns_cons c_impl_copyState (fns_nil _))) mixed Try.func164 (by kernel_rfl) (by kernel_rfl) (fun x => by kernel_rfl)

def s_impl_PlayContainer : Sig := { params := [.val true y101], res := [.val false y3, .val false y3, .val false y3, .row 3 y3 false, .row 3 y3 false, .row 3 y3 false], rgroups := [some 6] }
noncomputable def e_impl_PlayContainer : Entry := ⟨s_impl_PlayContainer, fun a => D.impl_PlayContainer a⟩
noncomputable def v_impl_PlayContainer : Env := { ti := look tab, Γ := fns [(164, [], e_impl_Replay)], loop := fun _ => none, cut := fun _ => none, deep := fun _ => false }
theorem c_impl_PlayContainer : Contract Try.prog 86 e_impl_PlayContainer.sig e_impl_PlayContainer.F :=
  den_is (E := v_impl_PlayContainer) ⟨tab_ti, tab_eq⟩ (fns_cons c_impl_Replay (fns_nil _)) mixed Try.func86 (by kernel_rfl) (by kernel_rfl) (fun x => by kernel_rfl)

def s_laws_eqIntS : Sig := { params := [.val false y24, .val false y24], res := [.val false y4] }
noncomputable def e_laws_eqIntS : Entry := ⟨s_laws_eqIntS, fun a => D.laws_eqIntS a.1 a.2⟩
noncomputable def v_laws_eqIntS : Env := { ti := look tab, Γ := fns [], loop := fun b => match b with | 0 => some [.slot 5 (.int .i64)] | _ => none, cut := fun _ => none, deep := fun _ => false }
theorem c_laws_eqIntS : Contract Try.prog 17 e_laws_eqIntS.sig e_laws_eqIntS.F :=
  den_is (E := v_laws_eqIntS) ⟨tab_ti, tab_eq⟩ (fns_nil _) mixed Try.func17 (by kernel_rfl) (by kernel_rfl) (fun x => by kernel_rfl)

def s_laws_eqState : Sig := { params := [.val true y123, .val true y123], res := [.val false y4] }
noncomputable def e_laws_eqState : Entry := ⟨s_laws_eqState, fun a => D.laws_eqState a.1 a.2⟩
noncomputable def v_laws_eqState : Env := { ti := look tab, Γ := fns [(17, [], e_laws_eqIntS)], loop := fun _ => none, cut := fun _ => none, deep := fun _ => false }
theorem c_laws_eqState : Contract Try.prog 165 e_laws_eqState.sig e_laws_eqState.F :=
  den_is (E := v_laws_eqState) ⟨tab_ti, tab_eq⟩ (fns_cons c_laws_eqIntS (fns_nil _)) mixed Try.func165 (by kernel_rfl) (by kernel_rfl) (fun x => by kernel_rfl)

def s_laws_eqPlayed : Sig := { params := [.val true y125, .val true y125], res := [.val false y4] }
noncomputable def e_laws_eqPlayed : Entry := ⟨s_laws_eqPlayed, fun a => D.laws_eqPlayed a.1 a.2⟩
noncomputable def v_laws_eqPlayed : Env := { ti := look tab, Γ := fns [(165, [], e_laws_eqState)], loop := fun _ => none, cut := fun _ => none, deep := fun _ => false }
theorem c_laws_eqPlayed : Contract Try.prog 87 e_laws_eqPlayed.sig e_laws_eqPlayed.F :=
  den_is (E := v_laws_eqPlayed) ⟨tab_ti, tab_eq⟩ (fns_cons c_laws_eqState (fns_nil _)) mixed Try.func87 (by kernel_rfl) (by kernel_rfl) (fun x => by kernel_rfl)

def s_laws_eqOp : Sig := { params := [.val true y162, .val true y162], res := [.val false y4] }
noncomputable def e_laws_eqOp : Entry := ⟨s_laws_eqOp, fun a => D.laws_eqOp a.1 a.2⟩
noncomputable def v_laws_eqOp : Env := { ti := look tab, Γ := fns [], loop := fun _ => none, cut := fun _ => none, deep := fun _ => false }
theorem c_laws_eqOp : Contract Try.prog 119 e_laws_eqOp.sig e_laws_eqOp.F :=
  den_is (E := v_laws_eqOp) ⟨tab_ti, tab_eq⟩ (fns_nil _) mixed Try.func119 (by kernel_rfl) (by kernel_rfl) (fun x => by kernel_rfl)

def s_laws_eqOpS : Sig := { params := [.val false y40, .val false y40], res := [.val false y4] }
noncomputable def e_laws_eqOpS : Entry := ⟨s_laws_eqOpS, fun a => D.laws_eqOpS a.1 a.2⟩
noncomputable def v_laws_eqOpS : Env := { ti := look tab, Γ := fns [(119, [], e_laws_eqOp)], loop := fun b => match b with | 0 => some [.slot 5 (.int .i64)] | _ => none, cut := fun _ => none, deep := fun _ => false }
theorem c_laws_eqOpS : Contract Try.prog 29 e_laws_eqOpS.sig e_laws_eqOpS.F :=
  den_is (E := v_laws_eqOpS) ⟨tab_ti, tab_eq⟩ (fns_cons c_laws_eqOp (fns_nil _)) mixed Try.func29 (by kernel_rfl) (by kernel_rfl) (fun x => by kernel_rfl)

def s_laws_eqAddress : Sig := { params := [.val true y93, .val true y93], res := [.val false y4] }
noncomputable def e_laws_eqAddress : Entry := ⟨s_laws_eqAddress, fun a => D.laws_eqAddress a.1 a.2⟩
noncomputable def v_laws_eqAddress : Env := { ti := look tab, Γ := fns [], loop := fun _ => none, cut := fun _ => none, deep := fun _ => false }
theorem c_laws_eqAddress : Contract Try.prog 161 e_laws_eqAddress.sig e_laws_eqAddress.F :=
  den_is (E := v_laws_eqAddress) ⟨tab_ti, tab_eq⟩ (fns_nil _) mixed Try.func161 (by kernel_rfl) (by kernel_rfl) (fun x => by kernel_rfl)

def s_laws_eqEntry : Sig := { params := [.val true y158, .val true y158], res := [.val false y4] }
noncomputable def e_laws_eqEntry : Entry := ⟨s_laws_eqEntry, fun a => D.laws_eqEntry a.1 a.2⟩
noncomputable def v_laws_eqEntry : Env := { ti := look tab, Γ := fns [(161, [], e_laws_eqAddress)], loop := fun _ => none, cut := fun _ => none, deep := fun _ => false }
theorem c_laws_eqEntry : Contract Try.prog 118 e_laws_eqEntry.sig e_laws_eqEntry.F :=
  den_is (E := v_laws_eqEntry) ⟨tab_ti, tab_eq⟩ (fns_cons c_laws_eqAddress (fns_nil _)) mixed Try.func118 (by kernel_rfl) (by kernel_rfl) (fun x => by kernel_rfl)

def s_laws_eqEntryS : Sig := { params := [.val false y37, .val false y37], res := [.val false y4] }
noncomputable def e_laws_eqEntryS : Entry := ⟨s_laws_eqEntryS, fun a => D.laws_eqEntryS a.1 a.2⟩
noncomputable def v_laws_eqEntryS : Env := { ti := look tab, Γ := fns [(118, [], e_laws_eqEntry)], loop := fun b => match b with | 0 => some [.slot 5 (.int .i64)] | _ => none, cut := fun _ => none, deep := fun _ => false }
theorem c_laws_eqEntryS : Contract Try.prog 28 e_laws_eqEntryS.sig e_laws_eqEntryS.F :=
  den_is (E := v_laws_eqEntryS) ⟨tab_ti, tab_eq⟩ (fns_cons c_laws_eqEntry (fns_nil _)) mixed Try.func28 (by kernel_rfl) (by kernel_rfl) (fun x => by kernel_rfl)

def s_laws_eqResource : Sig := { params := [.val true y137, .val true y137], res := [.val false y4] }
noncomputable def e_laws_eqResource : Entry := ⟨s_laws_eqResource, fun a => D.laws_eqResource a.1 a.2⟩
noncomputable def v_laws_eqResource : Env := { ti := look tab, Γ := fns [(17, [], e_laws_eqIntS), (161, [], e_laws_eqAddress)], loop := fun _ => none, cut := fun _ => none, deep := fun _ => false }
theorem c_laws_eqResource : Contract Try.prog 206 e_laws_eqResource.sig e_laws_eqResource.F :=
  den_is (E := v_laws_eqResource) ⟨tab_ti, tab_eq⟩ (fns_cons c_laws_eqIntS (fns_cons c_laws_eqAddress (fns_nil _))) mixed Try.func206 (by kernel_rfl) (by kernel_rfl) (fun x => by kernel_rfl)

def s_laws_eqCapture : Sig := { params := [.val true y139, .val true y139], res := [.val false y4] }
noncomputable def e_laws_eqCapture : Entry := ⟨s_laws_eqCapture, fun a => D.laws_eqCapture a.1 a.2⟩
noncomputable def v_laws_eqCapture : Env := { ti := look tab, Γ := fns [(161, [], e_laws_eqAddress), (206, [], e_laws_eqResource)], loop := fun _ => none, cut := fun _ => none, deep := fun _ => false }
theorem c_laws_eqCapture : Contract Try.prog 130 e_laws_eqCapture.sig e_laws_eqCapture.F :=
  den_is (E := v_laws_eqCapture) ⟨tab_ti, tab_eq⟩ (fns_cons c_laws_eqAddress (fns_cons c_laws_eqResource (fns_nil _))) mixed Try.func130 (by kernel_rfl) (by kernel_rfl) (fun x => by kernel_rfl)

def s_laws_eqCaptureS : Sig := { params := [.val false y58, .val false y58], res := [.val false y4] }
noncomputable def e_laws_eqCaptureS : Entry := ⟨s_laws_eqCaptureS, fun a => D.laws_eqCaptureS a.1 a.2⟩
noncomputable def v_laws_eqCaptureS : Env := { ti := look tab, Γ := fns [(130, [], e_laws_eqCapture)], loop := fun b => match b with | 0 => some [.slot 5 (.int .i64)] | _ => none, cut := fun _ => none, deep := fun _ => false }
theorem c_laws_eqCaptureS : Contract Try.prog 46 e_laws_eqCaptureS.sig e_laws_eqCaptureS.F :=
  den_is (E := v_laws_eqCaptureS) ⟨tab_ti, tab_eq⟩ (fns_cons c_laws_eqCapture (fns_nil _)) mixed Try.func46 (by kernel_rfl) (by kernel_rfl) (fun x => by kernel_rfl)

def s_laws_eqContainer : Sig := { params := [.val true y101, .val true y101], res := [.val false y4] }
noncomputable def e_laws_eqContainer : Entry := ⟨s_laws_eqContainer, fun a => D.laws_eqContainer a.1 a.2⟩
noncomputable def v_laws_eqContainer : Env := { ti := look tab, Γ := fns [(29, [], e_laws_eqOpS), (28, [], e_laws_eqEntryS), (46, [], e_laws_eqCaptureS)], loop := fun _ => none, cut := fun _ => none, deep := fun _ => false }
theorem c_laws_eqContainer : Contract Try.prog 69 e_laws_eqContainer.sig e_laws_eqContainer.F :=
  den_is (E := v_laws_eqContainer) ⟨tab_ti, tab_eq⟩ (fns_cons c_laws_eqOpS (fns_cons c_laws_eqEntryS (fns_cons c_laws_eqCaptureS (fns_nil _)))) mixed Try.func69 (by kernel_rfl) (by kernel_rfl) (fun x => by kernel_rfl)

def s_laws_markOpS : Sig := { params := [.io 162 y162, .val false y3], res := [.val false y3] }
noncomputable def e_laws_markOpS : Entry := ⟨s_laws_markOpS, fun a => D.laws_markOpS a.1 a.2⟩
noncomputable def v_laws_markOpS : Env := { ti := look tab, Γ := fns [], loop := fun b => match b with | 0 => some [.slot 1 (.int .i64), .slot 5 (.int .i64), .vec 0 162 y162 true] | _ => none, cut := fun _ => none, deep := fun _ => false }
theorem c_laws_markOpS : Contract Try.prog 31 e_laws_markOpS.sig e_laws_markOpS.F :=
  den_is (E := v_laws_markOpS) ⟨tab_ti, tab_eq⟩ (fns_nil _) mixed Try.func31 (by kernel_rfl) (by kernel_rfl) (fun x => by kernel_rfl)

def s_laws_markEntryS : Sig := { params := [.io 158 y158, .val false y3], res := [.val false y3] }
noncomputable def e_laws_markEntryS : Entry := ⟨s_laws_markEntryS, fun a => D.laws_markEntryS a.1 a.2⟩
noncomputable def v_laws_markEntryS : Env := { ti := look tab, Γ := fns [], loop := fun b => match b with | 0 => some [.slot 1 (.int .i64), .slot 5 (.int .i64), .vec 0 158 y158 true] | _ => none, cut := fun _ => none, deep := fun _ => false }
theorem c_laws_markEntryS : Contract Try.prog 33 e_laws_markEntryS.sig e_laws_markEntryS.F :=
  den_is (E := v_laws_markEntryS) ⟨tab_ti, tab_eq⟩ (fns_nil _) mixed Try.func33 (by kernel_rfl) (by kernel_rfl) (fun x => by kernel_rfl)

def s_laws_markIntS : Sig := { params := [.io 3 y3, .val false y3], res := [.val false y3] }
noncomputable def e_laws_markIntS : Entry := ⟨s_laws_markIntS, fun a => D.laws_markIntS a.1 a.2⟩
noncomputable def v_laws_markIntS : Env := { ti := look tab, Γ := fns [], loop := fun b => match b with | 0 => some [.slot 1 (.int .i64), .slot 5 (.int .i64), .vec 0 3 y3 true] | _ => none, cut := fun _ => none, deep := fun _ => false }
theorem c_laws_markIntS : Contract Try.prog 20 e_laws_markIntS.sig e_laws_markIntS.F :=
  den_is (E := v_laws_markIntS) ⟨tab_ti, tab_eq⟩ (fns_nil _) mixed Try.func20 (by kernel_rfl) (by kernel_rfl) (fun x => by kernel_rfl)

def s_laws_markCaptureS : Sig := { params := [.io 139 y139, .val false y3], res := [.val false y3] }
noncomputable def e_laws_markCaptureS : Entry := ⟨s_laws_markCaptureS, fun a => D.laws_markCaptureS a.1 a.2⟩
noncomputable def v_laws_markCaptureS : Env := { ti := look tab, Γ := fns [(20, [], e_laws_markIntS)], loop := fun b => match b with | 0 => some [.slot 1 (.int .i64), .slot 5 (.int .i64), .vec 0 139 y139 true] | _ => none, cut := fun _ => none, deep := fun _ => false }
theorem c_laws_markCaptureS : Contract Try.prog 48 e_laws_markCaptureS.sig e_laws_markCaptureS.F :=
  den_is (E := v_laws_markCaptureS) ⟨tab_ti, tab_eq⟩ (fns_cons c_laws_markIntS (fns_nil _)) mixed Try.func48 (by kernel_rfl) (by kernel_rfl) (fun x => by kernel_rfl)

def s_laws_markContainer : Sig := { params := [.io 162 y162, .io 158 y158, .io 139 y139, .val false y3, .val false y3], res := [.val false y3], groups := [some 4, none] }
noncomputable def e_laws_markContainer : Entry := ⟨s_laws_markContainer, fun a => D.laws_markContainer a.1 a.2.1 a.2.2.1 a.2.2.2.1 a.2.2.2.2⟩
noncomputable def v_laws_markContainer : Env := { ti := look tab, Γ := fns [(31, [], e_laws_markOpS), (33, [], e_laws_markEntryS), (48, [], e_laws_markCaptureS)], loop := fun _ => none, cut := fun _ => none, deep := fun _ => false }
theorem c_laws_markContainer : Contract Try.prog 70 e_laws_markContainer.sig e_laws_markContainer.F :=
  den_is (E := v_laws_markContainer) ⟨tab_ti, tab_eq⟩ (fns_cons c_laws_markOpS (fns_cons c_laws_markEntryS (fns_cons c_laws_markCaptureS (fns_nil _)))) mixed Try.func70 (by kernel_rfl) (by kernel_rfl) (fun x => by kernel_rfl)

def s_laws_markState : Sig := { params := [.val false y3, .io 3 y3, .io 3 y3, .io 3 y3, .val false y3], res := [.val false y3], groups := [some 4, none] }
noncomputable def e_laws_markState : Entry := ⟨s_laws_markState, fun a => D.laws_markState a.1 a.2.1 a.2.2.1 a.2.2.2.1 a.2.2.2.2⟩
noncomputable def v_laws_markState : Env := { ti := look tab, Γ := fns [(20, [], e_laws_markIntS)], loop := fun _ => none, cut := fun _ => none, deep := fun _ => false }
theorem c_laws_markState : Contract Try.prog 166 e_laws_markState.sig e_laws_markState.F :=
  den_is (E := v_laws_markState) ⟨tab_ti, tab_eq⟩ (fns_cons c_laws_markIntS (fns_nil _)) mixed Try.func166 (by kernel_rfl) (by kernel_rfl) (fun x => by kernel_rfl)

def s_laws_markPlayed : Sig := { params := [.val false y3, .val false y3, .val false y3, .io 3 y3, .io 3 y3, .io 3 y3, .val false y3], res := [.val false y3], groups := [some 6, none] }
noncomputable def e_laws_markPlayed : Entry := ⟨s_laws_markPlayed, fun a => D.laws_markPlayed a.1 a.2.1 a.2.2.1 a.2.2.2.1 a.2.2.2.2.1 a.2.2.2.2.2.1 a.2.2.2.2.2.2⟩
noncomputable def v_laws_markPlayed : Env := { ti := look tab, Γ := fns [(166, [], e_laws_markState)], loop := fun _ => none, cut := fun _ => none, deep := fun _ => false }
theorem c_laws_markPlayed : Contract Try.prog 88 e_laws_markPlayed.sig e_laws_markPlayed.F :=
  den_is (E := v_laws_markPlayed) ⟨tab_ti, tab_eq⟩ (fns_cons c_laws_markState (fns_nil _)) mixed Try.func88 (by kernel_rfl) (by kernel_rfl) (fun x => by kernel_rfl)

def s_laws_heldIntS : Sig := { params := [.val false y24, .val false y3], res := [.val false y3] }
noncomputable def e_laws_heldIntS : Entry := ⟨s_laws_heldIntS, fun a => D.laws_heldIntS a.1 a.2⟩
noncomputable def v_laws_heldIntS : Env := { ti := look tab, Γ := fns [], loop := fun b => match b with | 0 => some [.slot 1 (.int .i64), .slot 5 (.int .i64)] | _ => none, cut := fun _ => none, deep := fun _ => false }
theorem c_laws_heldIntS : Contract Try.prog 21 e_laws_heldIntS.sig e_laws_heldIntS.F :=
  den_is (E := v_laws_heldIntS) ⟨tab_ti, tab_eq⟩ (fns_nil _) mixed Try.func21 (by kernel_rfl) (by kernel_rfl) (fun x => by kernel_rfl)

def s_laws_heldState : Sig := { params := [.val true y123, .val false y3], res := [.val false y3] }
noncomputable def e_laws_heldState : Entry := ⟨s_laws_heldState, fun a => D.laws_heldState a.1 a.2⟩
noncomputable def v_laws_heldState : Env := { ti := look tab, Γ := fns [(21, [], e_laws_heldIntS)], loop := fun _ => none, cut := fun _ => none, deep := fun _ => false }
theorem c_laws_heldState : Contract Try.prog 167 e_laws_heldState.sig e_laws_heldState.F :=
  den_is (E := v_laws_heldState) ⟨tab_ti, tab_eq⟩ (fns_cons c_laws_heldIntS (fns_nil _)) mixed Try.func167 (by kernel_rfl) (by kernel_rfl) (fun x => by kernel_rfl)

def s_laws_heldPlayed : Sig := { params := [.val true y125, .val false y3], res := [.val false y3] }
noncomputable def e_laws_heldPlayed : Entry := ⟨s_laws_heldPlayed, fun a => D.laws_heldPlayed a.1 a.2⟩
noncomputable def v_laws_heldPlayed : Env := { ti := look tab, Γ := fns [(167, [], e_laws_heldState)], loop := fun _ => none, cut := fun _ => none, deep := fun _ => false }
theorem c_laws_heldPlayed : Contract Try.prog 89 e_laws_heldPlayed.sig e_laws_heldPlayed.F :=
  den_is (E := v_laws_heldPlayed) ⟨tab_ti, tab_eq⟩ (fns_cons c_laws_heldState (fns_nil _)) mixed Try.func89 (by kernel_rfl) (by kernel_rfl) (fun x => by kernel_rfl)

def s_laws_FnExactPlayContainer : Sig := { params := [.val true y120], res := [.val false y4] }
noncomputable def e_laws_FnExactPlayContainer : Entry := ⟨s_laws_FnExactPlayContainer, fun a => D.laws_FnExactPlayContainer a⟩
noncomputable def v_laws_FnExactPlayContainer : Env := { ti := look tab, Γ := fns [(83, [], e_laws_szContainer), (85, [], e_laws_toContainer), (84, [], e_spec_PlayContainer), (86, [], e_impl_PlayContainer), (87, [], e_laws_eqPlayed), (69, [], e_laws_eqContainer), (70, [], e_laws_markContainer), (88, [], e_laws_markPlayed), (89, [], e_laws_heldPlayed)], loop := fun _ => none, cut := fun _ => none, deep := fun _ => false }
theorem c_laws_FnExactPlayContainer : Contract Try.prog 11 e_laws_FnExactPlayContainer.sig e_laws_FnExactPlayContainer.F :=
  den_is (E := v_laws_FnExactPlayContainer) ⟨tab_ti, tab_eq⟩ (fns_cons c_laws_szContainer (fns_cons c_laws_toContainer (fns_cons c_spec_PlayContainer (fns_cons c_impl_PlayContainer (fns_cons c_laws_eqPlayed (fns_cons c_laws_eqContainer (fns_cons c_laws_markContainer (fns_cons c_laws_markPlayed (fns_cons c_laws_heldPlayed (fns_nil _)))))))))) mixed Try.func11 (by kernel_rfl) (by kernel_rfl) (fun x => by kernel_rfl)

theorem law_true (a : Tup (s_laws_FnExactPlayContainer.params.map PTy.den)) (hok : argsOk Try.prog s_laws_FnExactPlayContainer.params a) : D.laws_FnExactPlayContainer a = some true := D.FnExactPlayContainer_true a (Ty.ok_bd (P := Try.prog) (t := y120) (by kernel_rfl) hok.1)
theorem lifted (os : Os) (started : os.Started) (H : Type) (enc : TypeId × Value → H) :
    ReturnsInHanded {} Try.checked os 11 .any (Rows.fnExactPlayContainerSpec.pre6 enc Try.prog Try.f11 Rows.fnExactPlayContainerRow.domain false) (Rows.fnExactPlayContainerSpec.post enc Try.prog Try.f11 false true false false) := by
  refine returnsInHanded_of_change_sized (C := Try.checked) (by kernel_rfl) started (by kernel_rfl) Try.func11
    (ChangeSpec.witness6 (enc := enc) (C := Try.checked) false ⟨#[], #[.agg #[.slice none 0 0, .slice none 0 0, .slice none 0 0, .int .i64 0]], []⟩ 8 (by kernel_rfl) (by kernel_rfl) (by kernel_rfl) (by kernel_rfl)) ?_
  intro W base args ds gs before hval hW hcnd hsz _
  exact law_row (C := Try.checked) rfl c_laws_FnExactPlayContainer (N := 8) (by kernel_rfl) (tb := 4) (by kernel_rfl) (by kernel_rfl) (by kernel_rfl) (by kernel_rfl) rfl
    (fun ds h => by
      have h : ds.length = 1 := h
      match ds, h with
      | [d0], _ => rfl)
    bulky_sizeOf (small := fun _ => True) (fun a ds hok _ _ => ⟨_, law_true a hok, rfl⟩) hval hW hsz trivial

theorem over : Rows.fnExactPlayContainerRow.holds Try.pinned (OpenSpec.ofChange Rows.fnExactPlayContainerSpec) :=
  OpenClaim.holds_of_wide 11 Try.f11 rfl rfl rfl rfl rfl rfl rfl ⟨rfl, rfl, rfl, rfl, rfl⟩ rfl rfl rfl rfl rfl (by kernel_rfl) Try.func11 (by kernel_rfl)
    (of_decide_eq_true (by kernel_rfl)) (by unfold Func.isWrapper; first | (rw [if_pos (by decide +kernel)]; kernel_rfl) | (rw [if_neg (by decide +kernel)]; exact ⟨rfl, rfl⟩))
    (fun os started H enc _ => lifted os started H enc)
end Go.Proofs.Ythmpjemfgejccaa.SxFnExactPlayContainer
namespace Go.Proofs.Ythmpjemfgejccaa
theorem fnExactPlayContainer_holds : Rows.FnExactPlayContainerSaid := SxFnExactPlayContainer.over
end Go.Proofs.Ythmpjemfgejccaa
