/- FnExactSealContainer returns true for every input, and each input reads as it did. No condition. -/
import Derived.Test.YthmpjemfgejccaaRows
import Derived.Test.YthmpjemfgejccaaPuFnExactSealContainer
import Derived.WalkKit
import Derived.ProofKit
import Derived.ShutString
import Derived.SizedLaws
set_option linter.unusedVariables false
set_option maxRecDepth 100000
set_option maxHeartbeats 4000000
namespace Go.Proofs.Ythmpjemfgejccaa.SxFnExactSealContainer
open Go Go.Sh Go.RowKit
def y3 : Ty := .int .i64
def y4 : Ty := .bool
def y24 : Ty := .slice 3 y3
def y164 : Ty := .pair y3 (.pair y3 (.pair y3 y3))
def y33 : Ty := .slice 164 y164
def y93 : Ty := .pair y3 (.pair y3 y3)
def y158 : Ty := .pair y3 (.pair y93 y3)
def y37 : Ty := .slice 158 y158
def y162 : Ty := .pair y3 (.pair y3 (.pair y3 y3))
def y40 : Ty := .slice 162 y162
def y85 : Ty := .pair y3 (.pair y3 y3)
def y170 : Ty := .pair y3 (.pair y85 y3)
def y49 : Ty := .slice 170 y170
def y173 : Ty := .pair y3 (.pair y24 y85)
def y175 : Ty := .pair y85 (.pair y3 y173)
def y54 : Ty := .slice 175 y175
def y137 : Ty := .pair y3 (.pair y24 y93)
def y139 : Ty := .pair y93 (.pair y3 y137)
def y58 : Ty := .slice 139 y139
def y101 : Ty := .pair y40 (.pair y37 (.pair y58 y3))
def tab : List (TypeId × TI) := [(3, { size := 1, bytes := 8, agg := false, ty := some y3 }),
  (4, { size := 1, bytes := 1, agg := false, ty := some y4 }),
  (24, { size := 1, bytes := 24, agg := false, ty := some y24, elem := some 3 }),
  (164, { size := 4, bytes := 32, agg := true, ty := some y164, fields := [(0, 3), (1, 3), (2, 3), (3, 3)] }),
  (33, { size := 1, bytes := 24, agg := false, ty := some y33, elem := some 164 }),
  (93, { size := 3, bytes := 24, agg := true, ty := some y93, fields := [(0, 3), (1, 3), (2, 3)], eq := true }),
  (158, { size := 5, bytes := 40, agg := true, ty := some y158, fields := [(0, 3), (1, 93), (4, 3)] }),
  (37, { size := 1, bytes := 24, agg := false, ty := some y37, elem := some 158 }),
  (162, { size := 4, bytes := 32, agg := true, ty := some y162, fields := [(0, 3), (1, 3), (2, 3), (3, 3)] }),
  (40, { size := 1, bytes := 24, agg := false, ty := some y40, elem := some 162 }),
  (85, { size := 3, bytes := 24, agg := true, ty := some y85, fields := [(0, 3), (1, 3), (2, 3)] }),
  (170, { size := 5, bytes := 40, agg := true, ty := some y170, fields := [(0, 3), (1, 85), (4, 3)] }),
  (49, { size := 1, bytes := 24, agg := false, ty := some y49, elem := some 170 }),
  (173, { size := 5, bytes := 56, agg := true, ty := some y173, fields := [(0, 3), (1, 24), (2, 85)] }),
  (175, { size := 9, bytes := 88, agg := true, ty := some y175, fields := [(0, 85), (3, 3), (4, 173)] }),
  (54, { size := 1, bytes := 24, agg := false, ty := some y54, elem := some 175 }),
  (137, { size := 5, bytes := 56, agg := true, ty := some y137, fields := [(0, 3), (1, 24), (2, 93)] }),
  (139, { size := 9, bytes := 88, agg := true, ty := some y139, fields := [(0, 93), (3, 3), (4, 137)] }),
  (58, { size := 1, bytes := 24, agg := false, ty := some y58, elem := some 139 }),
  (101, { size := 4, bytes := 80, agg := true, ty := some y101, fields := [(0, 40), (1, 37), (2, 58), (3, 3)] })]
def look : List (TypeId × TI) → TypeId → Option TI
  | [], _ => none
  | (k, i) :: r, t => if Nat.beq t k = true then some i else look r t
theorem look_ok {P : Program} : ∀ {l : List (TypeId × TI)}, (l.all fun p => tiOk P p.1 p.2) = true → ∀ t i, look l t = some i → tiOk P t i = true
  | [], _, t, i, h => by simp [look] at h
  | (k, j) :: r, h0, t, i, h => by
    simp only [List.all_cons, Bool.and_eq_true] at h0
    simp only [look] at h
    split at h
    · rename_i hk
      simp only [Option.some.injEq] at h
      have := Nat.eq_of_beq_eq_true hk
      subst this; subst h; exact h0.1
    · exact look_ok h0.2 t i h
theorem look_eq {P : Program} : ∀ {l : List (TypeId × TI)}, (l.all fun p => !p.2.eq || eqTop P p.1 p.2.ty) = true → ∀ t i, look l t = some i → i.eq = true → ∀ ty, i.ty = some ty → EqLaw P t ty.zero
  | [], _, t, i, h => by simp [look] at h
  | (k, j) :: r, h0, t, i, h => by
    simp only [List.all_cons, Bool.and_eq_true, Bool.or_eq_true, Bool.not_eq_true'] at h0
    simp only [look] at h
    split at h
    · rename_i hk
      simp only [Option.some.injEq] at h
      have := Nat.eq_of_beq_eq_true hk
      subst this; subst h
      intro he
      exact eqLaw_of (h0.1.resolve_left (by simp [he]))
    · exact look_eq h0.2 t i h
def same : List Nat → List Nat → Bool
  | [], [] => true
  | a :: x, b :: y => Nat.beq a b && same x y
  | _, _ => false
theorem same_eq : ∀ {x y : List Nat}, same x y = true → x = y
  | [], [], _ => rfl
  | a :: x, b :: y, h => by
    simp only [same, Bool.and_eq_true] at h
    rw [Nat.eq_of_beq_eq_true h.1, same_eq h.2]
  | [], _ :: _, h => by simp [same] at h
  | _ :: _, [], h => by simp [same] at h
def fns : List (FuncId × List FuncId × Entry) → FuncId → List FuncId → Option Entry
  | [], _, _ => none
  | (k, c, e) :: r, f, fs => if (Nat.beq f k && same fs c) = true then some e else fns r f fs
theorem fns_nil (P : Program) : ∀ f fs en, fns [] f fs = some en → Contract P f en.sig en.F := fun f fs en h => by simp [fns] at h
theorem fns_cons {P : Program} {k : FuncId} {c : List FuncId} {e : Entry} {r : List (FuncId × List FuncId × Entry)} (hk : Contract P k e.sig e.F) (hr : ∀ f fs en, fns r f fs = some en → Contract P f en.sig en.F) : ∀ f fs en, fns ((k, c, e) :: r) f fs = some en → Contract P f en.sig en.F := fun f fs en h => by
  simp only [fns] at h
  split at h
  · rename_i hf
    simp only [Bool.and_eq_true] at hf
    simp only [Option.some.injEq] at h
    have := Nat.eq_of_beq_eq_true hf.1
    subst this; subst h; exact hk
  · exact hr f fs en h

theorem tab_ti : ∀ t i, look tab t = some i → tiOk Try.prog t i = true := look_ok (by kernel_rfl)
theorem tab_eq : ∀ t i, look tab t = some i → i.eq = true → ∀ ty, i.ty = some ty → EqLaw Try.prog t ty.zero := look_eq (by kernel_rfl)
theorem mixed : Try.prog.follows .mixedOrders = true := by kernel_rfl
def s_laws_szOpS : Sig := { params := [.val false y33, .val false y3], res := [.val false y3] }
noncomputable def e_laws_szOpS : Entry := ⟨s_laws_szOpS, fun a => D.laws_szOpS a.1 a.2⟩
noncomputable def v_laws_szOpS : Env := { ti := look tab, Γ := fns [], loop := fun _ => none, cut := fun _ => none, deep := fun _ => false }
theorem c_laws_szOpS : Contract Try.prog 22 e_laws_szOpS.sig e_laws_szOpS.F :=
  den_is (E := v_laws_szOpS) ⟨tab_ti, tab_eq⟩ (fns_nil _) mixed Try.func22 (by kernel_rfl) (by kernel_rfl) (fun x => by kernel_rfl)

def s_laws_szEntryS : Sig := { params := [.val false y49, .val false y3], res := [.val false y3] }
noncomputable def e_laws_szEntryS : Entry := ⟨s_laws_szEntryS, fun a => D.laws_szEntryS a.1 a.2⟩
noncomputable def v_laws_szEntryS : Env := { ti := look tab, Γ := fns [], loop := fun _ => none, cut := fun _ => none, deep := fun _ => false }
theorem c_laws_szEntryS : Contract Try.prog 35 e_laws_szEntryS.sig e_laws_szEntryS.F :=
  den_is (E := v_laws_szEntryS) ⟨tab_ti, tab_eq⟩ (fns_nil _) mixed Try.func35 (by kernel_rfl) (by kernel_rfl) (fun x => by kernel_rfl)

def s_laws_szIntS : Sig := { params := [.val false y24, .val false y3], res := [.val false y3] }
noncomputable def e_laws_szIntS : Entry := ⟨s_laws_szIntS, fun a => D.laws_szIntS a.1 a.2⟩
noncomputable def v_laws_szIntS : Env := { ti := look tab, Γ := fns [], loop := fun _ => none, cut := fun _ => none, deep := fun _ => false }
theorem c_laws_szIntS : Contract Try.prog 103 e_laws_szIntS.sig e_laws_szIntS.F :=
  den_is (E := v_laws_szIntS) ⟨tab_ti, tab_eq⟩ (fns_nil _) mixed Try.func103 (by kernel_rfl) (by kernel_rfl) (fun x => by kernel_rfl)

def s_laws_szResource : Sig := { params := [.val true y173, .val false y3], res := [.val false y3] }
noncomputable def e_laws_szResource : Entry := ⟨s_laws_szResource, fun a => D.laws_szResource a.1 a.2⟩
noncomputable def v_laws_szResource : Env := { ti := look tab, Γ := fns [(103, [], e_laws_szIntS)], loop := fun _ => none, cut := fun _ => none, deep := fun _ => false }
theorem c_laws_szResource : Contract Try.prog 199 e_laws_szResource.sig e_laws_szResource.F :=
  den_is (E := v_laws_szResource) ⟨tab_ti, tab_eq⟩ (fns_cons c_laws_szIntS (fns_nil _)) mixed Try.func199 (by kernel_rfl) (by kernel_rfl) (fun x => by kernel_rfl)

def s_laws_szCapture : Sig := { params := [.val true y175, .val false y3], res := [.val false y3] }
noncomputable def e_laws_szCapture : Entry := ⟨s_laws_szCapture, fun a => D.laws_szCapture a.1 a.2⟩
noncomputable def v_laws_szCapture : Env := { ti := look tab, Γ := fns [(199, [], e_laws_szResource)], loop := fun _ => none, cut := fun _ => none, deep := fun _ => false }
theorem c_laws_szCapture : Contract Try.prog 121 e_laws_szCapture.sig e_laws_szCapture.F :=
  den_is (E := v_laws_szCapture) ⟨tab_ti, tab_eq⟩ (fns_cons c_laws_szResource (fns_nil _)) mixed Try.func121 (by kernel_rfl) (by kernel_rfl) (fun x => by kernel_rfl)

def s_laws_szCaptureS : Sig := { params := [.val false y54, .val false y3], res := [.val false y3] }
noncomputable def e_laws_szCaptureS : Entry := ⟨s_laws_szCaptureS, fun a => D.laws_szCaptureS a.1 a.2⟩
noncomputable def v_laws_szCaptureS : Env := { ti := look tab, Γ := fns [(121, [], e_laws_szCapture)], loop := fun b => match b with | 0 => some [.slot 1 (.int .i64), .slot 5 (.int .i64)] | _ => none, cut := fun _ => none, deep := fun _ => false }
theorem c_laws_szCaptureS : Contract Try.prog 40 e_laws_szCaptureS.sig e_laws_szCaptureS.F :=
  den_is (E := v_laws_szCaptureS) ⟨tab_ti, tab_eq⟩ (fns_cons c_laws_szCapture (fns_nil _)) mixed Try.func40 (by kernel_rfl) (by kernel_rfl) (fun x => by kernel_rfl)

def s_laws_toOp : Sig := { params := [.val true y164], res := [.val true y162] }
noncomputable def e_laws_toOp : Entry := ⟨s_laws_toOp, fun a => D.laws_toOp a⟩
noncomputable def v_laws_toOp : Env := { ti := look tab, Γ := fns [], loop := fun _ => none, cut := fun _ => none, deep := fun _ => false }
theorem c_laws_toOp : Contract Try.prog 110 e_laws_toOp.sig e_laws_toOp.F :=
  den_is (E := v_laws_toOp) ⟨tab_ti, tab_eq⟩ (fns_nil _) mixed Try.func110 (by kernel_rfl) (by kernel_rfl) (fun x => by kernel_rfl)

def s_laws_toOpS : Sig := { params := [.val false y33], res := [.row 162 y162 false] }
noncomputable def e_laws_toOpS : Entry := ⟨s_laws_toOpS, fun a => D.laws_toOpS a⟩
noncomputable def v_laws_toOpS : Env := { ti := look tab, Γ := fns [(110, [], e_laws_toOp)], loop := fun b => match b with | 0 => some [.slot 4 (.int .i64), .vec 3 162 y162 false] | _ => none, cut := fun _ => none, deep := fun _ => false }
theorem c_laws_toOpS : Contract Try.prog 25 e_laws_toOpS.sig e_laws_toOpS.F :=
  den_is (E := v_laws_toOpS) ⟨tab_ti, tab_eq⟩ (fns_cons c_laws_toOp (fns_nil _)) mixed Try.func25 (by kernel_rfl) (by kernel_rfl) (fun x => by kernel_rfl)

def s_laws_toAddress : Sig := { params := [.val true y85], res := [.val true y93] }
noncomputable def e_laws_toAddress : Entry := ⟨s_laws_toAddress, fun a => D.laws_toAddress a⟩
noncomputable def v_laws_toAddress : Env := { ti := look tab, Γ := fns [], loop := fun _ => none, cut := fun _ => none, deep := fun _ => false }
theorem c_laws_toAddress : Contract Try.prog 60 e_laws_toAddress.sig e_laws_toAddress.F :=
  den_is (E := v_laws_toAddress) ⟨tab_ti, tab_eq⟩ (fns_nil _) mixed Try.func60 (by kernel_rfl) (by kernel_rfl) (fun x => by kernel_rfl)

def s_laws_toEntry : Sig := { params := [.val true y170], res := [.val true y158] }
noncomputable def e_laws_toEntry : Entry := ⟨s_laws_toEntry, fun a => D.laws_toEntry a⟩
noncomputable def v_laws_toEntry : Env := { ti := look tab, Γ := fns [(60, [], e_laws_toAddress)], loop := fun _ => none, cut := fun _ => none, deep := fun _ => false }
theorem c_laws_toEntry : Contract Try.prog 120 e_laws_toEntry.sig e_laws_toEntry.F :=
  den_is (E := v_laws_toEntry) ⟨tab_ti, tab_eq⟩ (fns_cons c_laws_toAddress (fns_nil _)) mixed Try.func120 (by kernel_rfl) (by kernel_rfl) (fun x => by kernel_rfl)

def s_laws_toEntryS : Sig := { params := [.val false y49], res := [.row 158 y158 false] }
noncomputable def e_laws_toEntryS : Entry := ⟨s_laws_toEntryS, fun a => D.laws_toEntryS a⟩
noncomputable def v_laws_toEntryS : Env := { ti := look tab, Γ := fns [(120, [], e_laws_toEntry)], loop := fun b => match b with | 0 => some [.slot 4 (.int .i64), .vec 3 158 y158 false] | _ => none, cut := fun _ => none, deep := fun _ => false }
theorem c_laws_toEntryS : Contract Try.prog 37 e_laws_toEntryS.sig e_laws_toEntryS.F :=
  den_is (E := v_laws_toEntryS) ⟨tab_ti, tab_eq⟩ (fns_cons c_laws_toEntry (fns_nil _)) mixed Try.func37 (by kernel_rfl) (by kernel_rfl) (fun x => by kernel_rfl)

def s_laws_toIntS : Sig := { params := [.val false y24], res := [.row 3 y3 false] }
noncomputable def e_laws_toIntS : Entry := ⟨s_laws_toIntS, fun a => D.laws_toIntS a⟩
noncomputable def v_laws_toIntS : Env := { ti := look tab, Γ := fns [], loop := fun b => match b with | 0 => some [.slot 4 (.int .i64), .vec 3 3 y3 false] | _ => none, cut := fun _ => none, deep := fun _ => false }
theorem c_laws_toIntS : Contract Try.prog 111 e_laws_toIntS.sig e_laws_toIntS.F :=
  den_is (E := v_laws_toIntS) ⟨tab_ti, tab_eq⟩ (fns_nil _) mixed Try.func111 (by kernel_rfl) (by kernel_rfl) (fun x => by kernel_rfl)

def s_laws_toResource : Sig := { params := [.val true y173], res := [.val false y3, .row 3 y3 false, .val false y3, .val false y3, .val false y3], rgroups := [some 5] }
noncomputable def e_laws_toResource : Entry := ⟨s_laws_toResource, fun a => D.laws_toResource a⟩
noncomputable def v_laws_toResource : Env := { ti := look tab, Γ := fns [(111, [], e_laws_toIntS), (60, [], e_laws_toAddress)], loop := fun _ => none, cut := fun _ => none, deep := fun _ => false }
theorem c_laws_toResource : Contract Try.prog 202 e_laws_toResource.sig e_laws_toResource.F :=
  den_is (E := v_laws_toResource) ⟨tab_ti, tab_eq⟩ (fns_cons c_laws_toIntS (fns_cons c_laws_toAddress (fns_nil _))) mixed Try.func202 (by kernel_rfl) (by kernel_rfl) (fun x => by kernel_rfl)

def s_laws_toCapture : Sig := { params := [.val true y175], res := [.val false y3, .val false y3, .val false y3, .val false y3, .val false y3, .row 3 y3 false, .val false y3, .val false y3, .val false y3], rgroups := [some 9] }
noncomputable def e_laws_toCapture : Entry := ⟨s_laws_toCapture, fun a => D.laws_toCapture a⟩
noncomputable def v_laws_toCapture : Env := { ti := look tab, Γ := fns [(60, [], e_laws_toAddress), (202, [], e_laws_toResource)], loop := fun _ => none, cut := fun _ => none, deep := fun _ => false }
theorem c_laws_toCapture : Contract Try.prog 124 e_laws_toCapture.sig e_laws_toCapture.F :=
  den_is (E := v_laws_toCapture) ⟨tab_ti, tab_eq⟩ (fns_cons c_laws_toAddress (fns_cons c_laws_toResource (fns_nil _))) mixed Try.func124 (by kernel_rfl) (by kernel_rfl) (fun x => by kernel_rfl)

def s_laws_toCaptureS : Sig := { params := [.val false y54], res := [.row 139 y139 true] }
noncomputable def e_laws_toCaptureS : Entry := ⟨s_laws_toCaptureS, fun a => D.laws_toCaptureS a⟩
noncomputable def v_laws_toCaptureS : Env := { ti := look tab, Γ := fns [(124, [], e_laws_toCapture)], loop := fun b => match b with | 0 => some [.slot 4 (.int .i64), .vec 3 139 y139 true] | _ => none, cut := fun _ => none, deep := fun t => Nat.beq t 7 }
theorem c_laws_toCaptureS : Contract Try.prog 43 e_laws_toCaptureS.sig e_laws_toCaptureS.F :=
  den_is (E := v_laws_toCaptureS) ⟨tab_ti, tab_eq⟩ (fns_cons c_laws_toCapture (fns_nil _)) mixed Try.func43 (by kernel_rfl) (by kernel_rfl) (fun x => by kernel_rfl)

def s_spec_l5Copy : Sig := { params := [.val true y137], res := [.val false y3, .row 3 y3 false, .val false y3, .val false y3, .val false y3], rgroups := [some 5] }
noncomputable def e_spec_l5Copy : Entry := ⟨s_spec_l5Copy, fun a => D.spec_l5Copy a⟩
noncomputable def v_spec_l5Copy : Env := { ti := look tab, Γ := fns [], loop := fun _ => none, cut := fun _ => none, deep := fun _ => false }
theorem c_spec_l5Copy : Contract Try.prog 201 e_spec_l5Copy.sig e_spec_l5Copy.F :=
  den_is (E := v_spec_l5Copy) ⟨tab_ti, tab_eq⟩ (fns_nil _) mixed Try.func201 (by kernel_rfl) (by kernel_rfl) (fun x => by kernel_rfl)

def s_spec_l15Copy : Sig := { params := [.val false y58], res := [.row 139 y139 true] }
noncomputable def e_spec_l15Copy : Entry := ⟨s_spec_l15Copy, fun a => D.spec_l15Copy a⟩
noncomputable def v_spec_l15Copy : Env := { ti := look tab, Γ := fns [(201, [], e_spec_l5Copy)], loop := fun b => match b with | 0 => some [.slot 3 (.own 139 y139 true), .slot 4 (.int .i64)] | _ => none, cut := fun _ => none, deep := fun t => Nat.beq t 5 || Nat.beq t 30 }
theorem c_spec_l15Copy : Contract Try.prog 123 e_spec_l15Copy.sig e_spec_l15Copy.F :=
  den_is (E := v_spec_l15Copy) ⟨tab_ti, tab_eq⟩ (fns_cons c_spec_l5Copy (fns_nil _)) mixed Try.func123 (by kernel_rfl) (by kernel_rfl) (fun x => by kernel_rfl)

def s_spec_ScriptInts : Sig := { params := [.val false y40], res := [.row 3 y3 false] }
noncomputable def e_spec_ScriptInts : Entry := ⟨s_spec_ScriptInts, fun a => D.spec_ScriptInts a⟩
noncomputable def v_spec_ScriptInts : Env := { ti := look tab, Γ := fns [], loop := fun b => match b with | 0 => some [.slot 3 (.own 3 y3 false), .slot 4 (.int .i64)] | _ => none, cut := fun _ => none, deep := fun _ => false }
theorem c_spec_ScriptInts : Contract Try.prog 143 e_spec_ScriptInts.sig e_spec_ScriptInts.F :=
  den_is (E := v_spec_ScriptInts) ⟨tab_ti, tab_eq⟩ (fns_nil _) mixed Try.func143 (by kernel_rfl) (by kernel_rfl) (fun x => by kernel_rfl)

def s_spec_l1In : Sig := { params := [.val false y3, .val false y3, .val false y3], res := [.val false y4] }
noncomputable def e_spec_l1In : Entry := ⟨s_spec_l1In, fun a => D.spec_l1In a.1 a.2.1 a.2.2⟩
noncomputable def v_spec_l1In : Env := { ti := look tab, Γ := fns [], loop := fun _ => none, cut := fun _ => none, deep := fun _ => false }
theorem c_spec_l1In : Contract Try.prog 152 e_spec_l1In.sig e_spec_l1In.F :=
  den_is (E := v_spec_l1In) ⟨tab_ti, tab_eq⟩ (fns_nil _) mixed Try.func152 (by kernel_rfl) (by kernel_rfl) (fun x => by kernel_rfl)

def s_spec_Mod : Sig := { params := [.val false y3, .val false y3], res := [.val false y3] }
noncomputable def e_spec_Mod : Entry := ⟨s_spec_Mod, fun a => D.spec_Mod a.1 a.2⟩
noncomputable def v_spec_Mod : Env := { ti := look tab, Γ := fns [(152, [], e_spec_l1In)], loop := fun _ => none, cut := fun _ => none, deep := fun _ => false }
theorem c_spec_Mod : Contract Try.prog 210 e_spec_Mod.sig e_spec_Mod.F :=
  den_is (E := v_spec_Mod) ⟨tab_ti, tab_eq⟩ (fns_cons c_spec_l1In (fns_nil _)) mixed Try.func210 (by kernel_rfl) (by kernel_rfl) (fun x => by kernel_rfl)

def s_spec_Hash : Sig := { params := [.val false y24], res := [.val false y3] }
noncomputable def e_spec_Hash : Entry := ⟨s_spec_Hash, fun a => D.spec_Hash a⟩
noncomputable def v_spec_Hash : Env := { ti := look tab, Γ := fns [(210, [], e_spec_Mod)], loop := fun b => match b with | 0 => some [.slot 3 (.int .i64), .slot 4 (.int .i64)] | _ => none, cut := fun _ => none, deep := fun _ => false }
theorem c_spec_Hash : Contract Try.prog 142 e_spec_Hash.sig e_spec_Hash.F :=
  den_is (E := v_spec_Hash) ⟨tab_ti, tab_eq⟩ (fns_cons c_spec_Mod (fns_nil _)) mixed Try.func142 (by kernel_rfl) (by kernel_rfl) (fun x => by kernel_rfl)

def s_spec_l30Entries : Sig := { params := [.val false y37], res := [.row 3 y3 false] }
noncomputable def e_spec_l30Entries : Entry := ⟨s_spec_l30Entries, fun a => D.spec_l30Entries a⟩
noncomputable def v_spec_l30Entries : Env := { ti := look tab, Γ := fns [], loop := fun b => match b with | 0 => some [.slot 3 (.own 3 y3 false), .slot 4 (.int .i64)] | _ => none, cut := fun _ => none, deep := fun _ => false }
theorem c_spec_l30Entries : Contract Try.prog 144 e_spec_l30Entries.sig e_spec_l30Entries.F :=
  den_is (E := v_spec_l30Entries) ⟨tab_ti, tab_eq⟩ (fns_nil _) mixed Try.func144 (by kernel_rfl) (by kernel_rfl) (fun x => by kernel_rfl)

def s_spec_ResourceInts : Sig := { params := [.val true y137], res := [.row 3 y3 false] }
noncomputable def e_spec_ResourceInts : Entry := ⟨s_spec_ResourceInts, fun a => D.spec_ResourceInts a⟩
noncomputable def v_spec_ResourceInts : Env := { ti := look tab, Γ := fns [], loop := fun _ => none, cut := fun _ => none, deep := fun _ => false }
theorem c_spec_ResourceInts : Contract Try.prog 207 e_spec_ResourceInts.sig e_spec_ResourceInts.F :=
  den_is (E := v_spec_ResourceInts) ⟨tab_ti, tab_eq⟩ (fns_nil _) mixed Try.func207 (by kernel_rfl) (by kernel_rfl) (fun x => by kernel_rfl)

def s_spec_CaptureInts : Sig := { params := [.val true y139], res := [.row 3 y3 false] }
noncomputable def e_spec_CaptureInts : Entry := ⟨s_spec_CaptureInts, fun a => D.spec_CaptureInts a⟩
noncomputable def v_spec_CaptureInts : Env := { ti := look tab, Γ := fns [(207, [], e_spec_ResourceInts)], loop := fun _ => none, cut := fun _ => none, deep := fun _ => false }
theorem c_spec_CaptureInts : Contract Try.prog 132 e_spec_CaptureInts.sig e_spec_CaptureInts.F :=
  den_is (E := v_spec_CaptureInts) ⟨tab_ti, tab_eq⟩ (fns_cons c_spec_ResourceInts (fns_nil _)) mixed Try.func132 (by kernel_rfl) (by kernel_rfl) (fun x => by kernel_rfl)

def s_spec_l30Captures : Sig := { params := [.val false y58], res := [.row 3 y3 false] }
noncomputable def e_spec_l30Captures : Entry := ⟨s_spec_l30Captures, fun a => D.spec_l30Captures a⟩
noncomputable def v_spec_l30Captures : Env := { ti := look tab, Γ := fns [(132, [], e_spec_CaptureInts), (142, [], e_spec_Hash)], loop := fun b => match b with | 0 => some [.slot 3 (.own 3 y3 false), .slot 4 (.int .i64)] | _ => none, cut := fun _ => none, deep := fun _ => false }
theorem c_spec_l30Captures : Contract Try.prog 145 e_spec_l30Captures.sig e_spec_l30Captures.F :=
  den_is (E := v_spec_l30Captures) ⟨tab_ti, tab_eq⟩ (fns_cons c_spec_CaptureInts (fns_cons c_spec_Hash (fns_nil _))) mixed Try.func145 (by kernel_rfl) (by kernel_rfl) (fun x => by kernel_rfl)

def s_spec_RootOf : Sig := { params := [.val false y24], res := [.val false y3] }
noncomputable def e_spec_RootOf : Entry := ⟨s_spec_RootOf, fun a => D.spec_RootOf a⟩
noncomputable def v_spec_RootOf (n : Nat) : Env := { ti := look tab, Γ := fns [(141, [], ⟨s_spec_RootOf, fun a => D.spec_RootOf_f n a⟩), (142, [], e_spec_Hash)], loop := fun _ => none, cut := fun _ => none, deep := fun _ => false }
theorem cf_spec_RootOf : ∀ n : Nat, Contract Try.prog 141 s_spec_RootOf (fun a => D.spec_RootOf_f n a)
  | 0 => ⟨⟨_, Try.func141, by kernel_rfl, by kernel_rfl⟩, fun a out w S lent cx vals hF => by cases hF⟩
  | n + 1 => have ih := cf_spec_RootOf n; den_is (E := v_spec_RootOf n) ⟨tab_ti, tab_eq⟩ (fns_cons ih (fns_cons c_spec_Hash (fns_nil _))) mixed Try.func141 (by kernel_rfl) (by kernel_rfl) (fun x => by kernel_rfl)
theorem c_spec_RootOf : Contract Try.prog 141 e_spec_RootOf.sig e_spec_RootOf.F := ⟨(cf_spec_RootOf 0).1, fun a => (cf_spec_RootOf (a.length + 1)).2 a⟩

def s_spec_SealContainer : Sig := { params := [.val false y40, .val false y37, .val false y58], res := [.row 162 y162 false, .row 158 y158 false, .row 139 y139 true, .val false y3], rgroups := [some 4] }
noncomputable def e_spec_SealContainer : Entry := ⟨s_spec_SealContainer, fun a => D.spec_SealContainer a.1 a.2.1 a.2.2⟩
noncomputable def v_spec_SealContainer : Env := { ti := look tab, Γ := fns [(123, [], e_spec_l15Copy), (143, [], e_spec_ScriptInts), (142, [], e_spec_Hash), (144, [], e_spec_l30Entries), (145, [], e_spec_l30Captures), (141, [], e_spec_RootOf)], loop := fun _ => none, cut := fun _ => none, deep := fun _ => false }
theorem c_spec_SealContainer : Contract Try.prog 67 e_spec_SealContainer.sig e_spec_SealContainer.F :=
  den_is (E := v_spec_SealContainer) ⟨tab_ti, tab_eq⟩ (fns_cons c_spec_l15Copy (fns_cons c_spec_ScriptInts (fns_cons c_spec_Hash (fns_cons c_spec_l30Entries (fns_cons c_spec_l30Captures (fns_cons c_spec_RootOf (fns_nil _))))))) mixed Try.func67 (by kernel_rfl) (by kernel_rfl) (fun x => by kernel_rfl)

def s_impl_ResourceInts : Sig := { params := [.val true y137], res := [.row 3 y3 false] }
noncomputable def e_impl_ResourceInts : Entry := ⟨s_impl_ResourceInts, fun a => D.impl_ResourceInts a⟩
noncomputable def v_impl_ResourceInts : Env := { ti := look tab, Γ := fns [], loop := fun _ => none, cut := fun _ => none, deep := fun _ => false }
theorem c_impl_ResourceInts : Contract Try.prog 208 e_impl_ResourceInts.sig e_impl_ResourceInts.F :=
  den_is (E := v_impl_ResourceInts) ⟨tab_ti, tab_eq⟩ (fns_nil _) mixed Try.func208 (by kernel_rfl) (by kernel_rfl) (fun x => by kernel_rfl)

def s_impl_CaptureInts : Sig := { params := [.val true y139], res := [.row 3 y3 false] }
noncomputable def e_impl_CaptureInts : Entry := ⟨s_impl_CaptureInts, fun a => D.impl_CaptureInts a⟩
noncomputable def v_impl_CaptureInts : Env := { ti := look tab, Γ := fns [(208, [], e_impl_ResourceInts)], loop := fun _ => none, cut := fun _ => none, deep := fun _ => false }
theorem c_impl_CaptureInts : Contract Try.prog 133 e_impl_CaptureInts.sig e_impl_CaptureInts.F :=
  den_is (E := v_impl_CaptureInts) ⟨tab_ti, tab_eq⟩ (fns_cons c_impl_ResourceInts (fns_nil _)) mixed Try.func133 (by kernel_rfl) (by kernel_rfl) (fun x => by kernel_rfl)

def s_impl_InRange : Sig := { params := [.val false y3, .val false y3, .val false y3], res := [.val false y4] }
noncomputable def e_impl_InRange : Entry := ⟨s_impl_InRange, fun a => D.impl_InRange a.1 a.2.1 a.2.2⟩
noncomputable def v_impl_InRange : Env := { ti := look tab, Γ := fns [], loop := fun _ => none, cut := fun _ => none, deep := fun _ => false }
theorem c_impl_InRange : Contract Try.prog 156 e_impl_InRange.sig e_impl_InRange.F :=
  den_is (E := v_impl_InRange) ⟨tab_ti, tab_eq⟩ (fns_nil _) mixed Try.func156 (by kernel_rfl) (by kernel_rfl) (fun x => by kernel_rfl)

def s_impl_Mod : Sig := { params := [.val false y3, .val false y3], res := [.val false y3] }
noncomputable def e_impl_Mod : Entry := ⟨s_impl_Mod, fun a => D.impl_Mod a.1 a.2⟩
noncomputable def v_impl_Mod : Env := { ti := look tab, Γ := fns [(156, [], e_impl_InRange)], loop := fun _ => none, cut := fun _ => none, deep := fun _ => false }
theorem c_impl_Mod : Contract Try.prog 211 e_impl_Mod.sig e_impl_Mod.F :=
  den_is (E := v_impl_Mod) ⟨tab_ti, tab_eq⟩ (fns_cons c_impl_InRange (fns_nil _)) mixed Try.func211 (by kernel_rfl) (by kernel_rfl) (fun x => by kernel_rfl)

def s_impl_Hash : Sig := { params := [.val false y24], res := [.val false y3] }
noncomputable def e_impl_Hash : Entry := ⟨s_impl_Hash, fun a => D.impl_Hash a⟩
noncomputable def v_impl_Hash : Env := { ti := look tab, Γ := fns [(211, [], e_impl_Mod)], loop := fun b => match b with | 0 => some [.slot 3 (.int .i64), .slot 8 (.int .i64)] | _ => none, cut := fun _ => none, deep := fun _ => false }
theorem c_impl_Hash : Contract Try.prog 146 e_impl_Hash.sig e_impl_Hash.F :=
  den_is (E := v_impl_Hash) ⟨tab_ti, tab_eq⟩ (fns_cons c_impl_Mod (fns_nil _)) mixed Try.func146 (by kernel_rfl) (by kernel_rfl) (fun x => by kernel_rfl)

def s_slices_Clone_Op : Sig := { params := [.val false y40], res := [.row 162 y162 false] }
noncomputable def e_slices_Clone_Op : Entry := ⟨s_slices_Clone_Op, fun a => D.slices_Clone_Op a⟩
noncomputable def v_slices_Clone_Op : Env := { ti := look tab, Γ := fns [], loop := fun _ => none, cut := fun _ => none, deep := fun _ => false }
theorem c_slices_Clone_Op : Contract Try.prog 147 e_slices_Clone_Op.sig e_slices_Clone_Op.F :=
  den_is (E := v_slices_Clone_Op) ⟨tab_ti, tab_eq⟩ (fns_nil _) mixed Try.func147 (by kernel_rfl) (by kernel_rfl) (fun x => by kernel_rfl)

def s_slices_Clone_Entry : Sig := { params := [.val false y37], res := [.row 158 y158 false] }
noncomputable def e_slices_Clone_Entry : Entry := ⟨s_slices_Clone_Entry, fun a => D.slices_Clone_Entry a⟩
noncomputable def v_slices_Clone_Entry : Env := { ti := look tab, Γ := fns [], loop := fun _ => none, cut := fun _ => none, deep := fun _ => false }
theorem c_slices_Clone_Entry : Contract Try.prog 148 e_slices_Clone_Entry.sig e_slices_Clone_Entry.F :=
  den_is (E := v_slices_Clone_Entry) ⟨tab_ti, tab_eq⟩ (fns_nil _) mixed Try.func148 (by kernel_rfl) (by kernel_rfl) (fun x => by kernel_rfl)

def s_slices_Clone_int : Sig := { params := [.val false y24], res := [.row 3 y3 false] }
noncomputable def e_slices_Clone_int : Entry := ⟨s_slices_Clone_int, fun a => D.slices_Clone_int a⟩
noncomputable def v_slices_Clone_int : Env := { ti := look tab, Γ := fns [], loop := fun _ => none, cut := fun _ => none, deep := fun _ => false }
theorem c_slices_Clone_int : Contract Try.prog 232 e_slices_Clone_int.sig e_slices_Clone_int.F :=
  den_is (E := v_slices_Clone_int) ⟨tab_ti, tab_eq⟩ (fns_nil _) mixed Try.func232 (by kernel_rfl) (by kernel_rfl) (fun x => by kernel_rfl)

def s_impl_copyResource : Sig := { params := [.val true y137], res := [.val false y3, .row 3 y3 false, .val false y3, .val false y3, .val false y3], rgroups := [some 5] }
noncomputable def e_impl_copyResource : Entry := ⟨s_impl_copyResource, fun a => D.impl_copyResource a⟩
noncomputable def v_impl_copyResource : Env := { ti := look tab, Γ := fns [(232, [], e_slices_Clone_int)], loop := fun _ => none, cut := fun _ => none, deep := fun _ => false }
theorem c_impl_copyResource : Contract Try.prog 205 e_impl_copyResource.sig e_impl_copyResource.F :=
  den_is (E := v_impl_copyResource) ⟨tab_ti, tab_eq⟩ (fns_cons c_slices_Clone_int (fns_nil _)) mixed Try.func205 (by kernel_rfl) (by kernel_rfl) (fun x => by kernel_rfl)

def s_impl_copyCaptures : Sig := { params := [.val false y58], res := [.row 139 y139 true] }
noncomputable def e_impl_copyCaptures : Entry := ⟨s_impl_copyCaptures, fun a => D.impl_copyCaptures a⟩
noncomputable def v_impl_copyCaptures : Env := { ti := look tab, Γ := fns [(205, [], e_impl_copyResource)], loop := fun b => match b with | 0 => some [.slot 3 (.own 139 y139 true), .slot 8 (.int .i64)] | _ => none, cut := fun _ => none, deep := fun t => Nat.beq t 21 }
theorem c_impl_copyCaptures : Contract Try.prog 129 e_impl_copyCaptures.sig e_impl_copyCaptures.F :=
  den_is (E := v_impl_copyCaptures) ⟨tab_ti, tab_eq⟩ (fns_cons c_impl_copyResource (fns_nil _)) mixed Try.func129 (by kernel_rfl) (by kernel_rfl) (fun x => by kernel_rfl)

def s_impl_ScriptInts : Sig := { params := [.val false y40], res := [.row 3 y3 false] }
noncomputable def e_impl_ScriptInts : Entry := ⟨s_impl_ScriptInts, fun a => D.impl_ScriptInts a⟩
noncomputable def v_impl_ScriptInts : Env := { ti := look tab, Γ := fns [], loop := fun b => match b with | 0 => some [.slot 3 (.own 3 y3 false), .slot 8 (.int .i64)] | _ => none, cut := fun _ => none, deep := fun _ => false }
theorem c_impl_ScriptInts : Contract Try.prog 150 e_impl_ScriptInts.sig e_impl_ScriptInts.F :=
  den_is (E := v_impl_ScriptInts) ⟨tab_ti, tab_eq⟩ (fns_nil _) mixed Try.func150 (by kernel_rfl) (by kernel_rfl) (fun x => by kernel_rfl)

def s_impl_RootOf : Sig := { params := [.val false y24], res := [.val false y3] }
noncomputable def e_impl_RootOf : Entry := ⟨s_impl_RootOf, fun a => D.impl_RootOf a⟩
noncomputable def v_impl_RootOf (n : Nat) : Env := { ti := look tab, Γ := fns [(149, [], ⟨s_impl_RootOf, fun a => D.impl_RootOf_f n a⟩), (146, [], e_impl_Hash)], loop := fun _ => none, cut := fun _ => none, deep := fun _ => false }
theorem cf_impl_RootOf : ∀ n : Nat, Contract Try.prog 149 s_impl_RootOf (fun a => D.impl_RootOf_f n a)
  | 0 => ⟨⟨_, Try.func149, by kernel_rfl, by kernel_rfl⟩, fun a out w S lent cx vals hF => by cases hF⟩
  | n + 1 => have ih := cf_impl_RootOf n; den_is (E := v_impl_RootOf n) ⟨tab_ti, tab_eq⟩ (fns_cons ih (fns_cons c_impl_Hash (fns_nil _))) mixed Try.func149 (by kernel_rfl) (by kernel_rfl) (fun x => by kernel_rfl)
theorem c_impl_RootOf : Contract Try.prog 149 e_impl_RootOf.sig e_impl_RootOf.F := ⟨(cf_impl_RootOf 0).1, fun a => (cf_impl_RootOf (a.length + 1)).2 a⟩

def s_impl_SealContainer : Sig := { params := [.val false y40, .val false y37, .val false y58], res := [.row 162 y162 false, .row 158 y158 false, .row 139 y139 true, .val false y3], rgroups := [some 4] }
noncomputable def e_impl_SealContainer : Entry := ⟨s_impl_SealContainer, fun a => D.impl_SealContainer a.1 a.2.1 a.2.2⟩
noncomputable def v_impl_SealContainer : Env := { ti := look tab, Γ := fns [(133, [], e_impl_CaptureInts), (146, [], e_impl_Hash), (147, [], e_slices_Clone_Op), (148, [], e_slices_Clone_Entry), (129, [], e_impl_copyCaptures), (150, [], e_impl_ScriptInts), (149, [], e_impl_RootOf)], loop := fun b => match b with | 0 => some [.slot 7 (.own 3 y3 false), .slot 15 (.int .i64)] | 2 => some [.slot 8 (.own 3 y3 false), .slot 38 (.int .i64)] | _ => none, cut := fun _ => none, deep := fun _ => false }
theorem c_impl_SealContainer : Contract Try.prog 68 e_impl_SealContainer.sig e_impl_SealContainer.F :=
  den_is (E := v_impl_SealContainer) ⟨tab_ti, tab_eq⟩ (fns_cons c_impl_CaptureInts (fns_cons c_impl_Hash (fns_cons c_slices_Clone_Op (fns_cons c_slices_Clone_Entry (fns_cons c_impl_copyCaptures (fns_cons c_impl_ScriptInts (fns_cons c_impl_RootOf (fns_nil _)))))))) mixed Try.func68 (by kernel_rfl) (by kernel_rfl) (fun x => by kernel_rfl)

def s_laws_eqOp : Sig := { params := [.val true y162, .val true y162], res := [.val false y4] }
noncomputable def e_laws_eqOp : Entry := ⟨s_laws_eqOp, fun a => D.laws_eqOp a.1 a.2⟩
noncomputable def v_laws_eqOp : Env := { ti := look tab, Γ := fns [], loop := fun _ => none, cut := fun _ => none, deep := fun _ => false }
theorem c_laws_eqOp : Contract Try.prog 119 e_laws_eqOp.sig e_laws_eqOp.F :=
  den_is (E := v_laws_eqOp) ⟨tab_ti, tab_eq⟩ (fns_nil _) mixed Try.func119 (by kernel_rfl) (by kernel_rfl) (fun x => by kernel_rfl)

def s_laws_eqOpS : Sig := { params := [.val false y40, .val false y40], res := [.val false y4] }
noncomputable def e_laws_eqOpS : Entry := ⟨s_laws_eqOpS, fun a => D.laws_eqOpS a.1 a.2⟩
noncomputable def v_laws_eqOpS : Env := { ti := look tab, Γ := fns [(119, [], e_laws_eqOp)], loop := fun b => match b with | 0 => some [.slot 5 (.int .i64)] | _ => none, cut := fun _ => none, deep := fun _ => false }
theorem c_laws_eqOpS : Contract Try.prog 29 e_laws_eqOpS.sig e_laws_eqOpS.F :=
  den_is (E := v_laws_eqOpS) ⟨tab_ti, tab_eq⟩ (fns_cons c_laws_eqOp (fns_nil _)) mixed Try.func29 (by kernel_rfl) (by kernel_rfl) (fun x => by kernel_rfl)

def s_laws_eqAddress : Sig := { params := [.val true y93, .val true y93], res := [.val false y4] }
noncomputable def e_laws_eqAddress : Entry := ⟨s_laws_eqAddress, fun a => D.laws_eqAddress a.1 a.2⟩
noncomputable def v_laws_eqAddress : Env := { ti := look tab, Γ := fns [], loop := fun _ => none, cut := fun _ => none, deep := fun _ => false }
theorem c_laws_eqAddress : Contract Try.prog 161 e_laws_eqAddress.sig e_laws_eqAddress.F :=
  den_is (E := v_laws_eqAddress) ⟨tab_ti, tab_eq⟩ (fns_nil _) mixed Try.func161 (by kernel_rfl) (by kernel_rfl) (fun x => by kernel_rfl)

def s_laws_eqEntry : Sig := { params := [.val true y158, .val true y158], res := [.val false y4] }
noncomputable def e_laws_eqEntry : Entry := ⟨s_laws_eqEntry, fun a => D.laws_eqEntry a.1 a.2⟩
noncomputable def v_laws_eqEntry : Env := { ti := look tab, Γ := fns [(161, [], e_laws_eqAddress)], loop := fun _ => none, cut := fun _ => none, deep := fun _ => false }
theorem c_laws_eqEntry : Contract Try.prog 118 e_laws_eqEntry.sig e_laws_eqEntry.F :=
  den_is (E := v_laws_eqEntry) ⟨tab_ti, tab_eq⟩ (fns_cons c_laws_eqAddress (fns_nil _)) mixed Try.func118 (by kernel_rfl) (by kernel_rfl) (fun x => by kernel_rfl)

def s_laws_eqEntryS : Sig := { params := [.val false y37, .val false y37], res := [.val false y4] }
noncomputable def e_laws_eqEntryS : Entry := ⟨s_laws_eqEntryS, fun a => D.laws_eqEntryS a.1 a.2⟩
noncomputable def v_laws_eqEntryS : Env := { ti := look tab, Γ := fns [(118, [], e_laws_eqEntry)], loop := fun b => match b with | 0 => some [.slot 5 (.int .i64)] | _ => none, cut := fun _ => none, deep := fun _ => false }
theorem c_laws_eqEntryS : Contract Try.prog 28 e_laws_eqEntryS.sig e_laws_eqEntryS.F :=
  den_is (E := v_laws_eqEntryS) ⟨tab_ti, tab_eq⟩ (fns_cons c_laws_eqEntry (fns_nil _)) mixed Try.func28 (by kernel_rfl) (by kernel_rfl) (fun x => by kernel_rfl)

def s_laws_eqIntS : Sig := { params := [.val false y24, .val false y24], res := [.val false y4] }
noncomputable def e_laws_eqIntS : Entry := ⟨s_laws_eqIntS, fun a => D.laws_eqIntS a.1 a.2⟩
noncomputable def v_laws_eqIntS : Env := { ti := look tab, Γ := fns [], loop := fun b => match b with | 0 => some [.slot 5 (.int .i64)] | _ => none, cut := fun _ => none, deep := fun _ => false }
theorem c_laws_eqIntS : Contract Try.prog 17 e_laws_eqIntS.sig e_laws_eqIntS.F :=
  den_is (E := v_laws_eqIntS) ⟨tab_ti, tab_eq⟩ (fns_nil _) mixed Try.func17 (by kernel_rfl) (by kernel_rfl) (fun x => by kernel_rfl)

def s_laws_eqResource : Sig := { params := [.val true y137, .val true y137], res := [.val false y4] }
noncomputable def e_laws_eqResource : Entry := ⟨s_laws_eqResource, fun a => D.laws_eqResource a.1 a.2⟩
noncomputable def v_laws_eqResource : Env := { ti := look tab, Γ := fns [(17, [], e_laws_eqIntS), (161, [], e_laws_eqAddress)], loop := fun _ => none, cut := fun _ => none, deep := fun _ => false }
theorem c_laws_eqResource : Contract Try.prog 206 e_laws_eqResource.sig e_laws_eqResource.F :=
  den_is (E := v_laws_eqResource) ⟨tab_ti, tab_eq⟩ (fns_cons c_laws_eqIntS (fns_cons c_laws_eqAddress (fns_nil _))) mixed Try.func206 (by kernel_rfl) (by kernel_rfl) (fun x => by kernel_rfl)

def s_laws_eqCapture : Sig := { params := [.val true y139, .val true y139], res := [.val false y4] }
noncomputable def e_laws_eqCapture : Entry := ⟨s_laws_eqCapture, fun a => D.laws_eqCapture a.1 a.2⟩
noncomputable def v_laws_eqCapture : Env := { ti := look tab, Γ := fns [(161, [], e_laws_eqAddress), (206, [], e_laws_eqResource)], loop := fun _ => none, cut := fun _ => none, deep := fun _ => false }
theorem c_laws_eqCapture : Contract Try.prog 130 e_laws_eqCapture.sig e_laws_eqCapture.F :=
  den_is (E := v_laws_eqCapture) ⟨tab_ti, tab_eq⟩ (fns_cons c_laws_eqAddress (fns_cons c_laws_eqResource (fns_nil _))) mixed Try.func130 (by kernel_rfl) (by kernel_rfl) (fun x => by kernel_rfl)

def s_laws_eqCaptureS : Sig := { params := [.val false y58, .val false y58], res := [.val false y4] }
noncomputable def e_laws_eqCaptureS : Entry := ⟨s_laws_eqCaptureS, fun a => D.laws_eqCaptureS a.1 a.2⟩
noncomputable def v_laws_eqCaptureS : Env := { ti := look tab, Γ := fns [(130, [], e_laws_eqCapture)], loop := fun b => match b with | 0 => some [.slot 5 (.int .i64)] | _ => none, cut := fun _ => none, deep := fun _ => false }
theorem c_laws_eqCaptureS : Contract Try.prog 46 e_laws_eqCaptureS.sig e_laws_eqCaptureS.F :=
  den_is (E := v_laws_eqCaptureS) ⟨tab_ti, tab_eq⟩ (fns_cons c_laws_eqCapture (fns_nil _)) mixed Try.func46 (by kernel_rfl) (by kernel_rfl) (fun x => by kernel_rfl)

def s_laws_eqContainer : Sig := { params := [.val true y101, .val true y101], res := [.val false y4] }
noncomputable def e_laws_eqContainer : Entry := ⟨s_laws_eqContainer, fun a => D.laws_eqContainer a.1 a.2⟩
noncomputable def v_laws_eqContainer : Env := { ti := look tab, Γ := fns [(29, [], e_laws_eqOpS), (28, [], e_laws_eqEntryS), (46, [], e_laws_eqCaptureS)], loop := fun _ => none, cut := fun _ => none, deep := fun _ => false }
theorem c_laws_eqContainer : Contract Try.prog 69 e_laws_eqContainer.sig e_laws_eqContainer.F :=
  den_is (E := v_laws_eqContainer) ⟨tab_ti, tab_eq⟩ (fns_cons c_laws_eqOpS (fns_cons c_laws_eqEntryS (fns_cons c_laws_eqCaptureS (fns_nil _)))) mixed Try.func69 (by kernel_rfl) (by kernel_rfl) (fun x => by kernel_rfl)

def s_laws_markOpS : Sig := { params := [.io 162 y162, .val false y3], res := [.val false y3] }
noncomputable def e_laws_markOpS : Entry := ⟨s_laws_markOpS, fun a => D.laws_markOpS a.1 a.2⟩
noncomputable def v_laws_markOpS : Env := { ti := look tab, Γ := fns [], loop := fun b => match b with | 0 => some [.slot 1 (.int .i64), .slot 5 (.int .i64), .vec 0 162 y162 true] | _ => none, cut := fun _ => none, deep := fun _ => false }
theorem c_laws_markOpS : Contract Try.prog 31 e_laws_markOpS.sig e_laws_markOpS.F :=
  den_is (E := v_laws_markOpS) ⟨tab_ti, tab_eq⟩ (fns_nil _) mixed Try.func31 (by kernel_rfl) (by kernel_rfl) (fun x => by kernel_rfl)

def s_laws_markEntryS : Sig := { params := [.io 158 y158, .val false y3], res := [.val false y3] }
noncomputable def e_laws_markEntryS : Entry := ⟨s_laws_markEntryS, fun a => D.laws_markEntryS a.1 a.2⟩
noncomputable def v_laws_markEntryS : Env := { ti := look tab, Γ := fns [], loop := fun b => match b with | 0 => some [.slot 1 (.int .i64), .slot 5 (.int .i64), .vec 0 158 y158 true] | _ => none, cut := fun _ => none, deep := fun _ => false }
theorem c_laws_markEntryS : Contract Try.prog 33 e_laws_markEntryS.sig e_laws_markEntryS.F :=
  den_is (E := v_laws_markEntryS) ⟨tab_ti, tab_eq⟩ (fns_nil _) mixed Try.func33 (by kernel_rfl) (by kernel_rfl) (fun x => by kernel_rfl)

def s_laws_markIntS : Sig := { params := [.io 3 y3, .val false y3], res := [.val false y3] }
noncomputable def e_laws_markIntS : Entry := ⟨s_laws_markIntS, fun a => D.laws_markIntS a.1 a.2⟩
noncomputable def v_laws_markIntS : Env := { ti := look tab, Γ := fns [], loop := fun b => match b with | 0 => some [.slot 1 (.int .i64), .slot 5 (.int .i64), .vec 0 3 y3 true] | _ => none, cut := fun _ => none, deep := fun _ => false }
theorem c_laws_markIntS : Contract Try.prog 20 e_laws_markIntS.sig e_laws_markIntS.F :=
  den_is (E := v_laws_markIntS) ⟨tab_ti, tab_eq⟩ (fns_nil _) mixed Try.func20 (by kernel_rfl) (by kernel_rfl) (fun x => by kernel_rfl)

def s_laws_markCaptureS : Sig := { params := [.io 139 y139, .val false y3], res := [.val false y3] }
noncomputable def e_laws_markCaptureS : Entry := ⟨s_laws_markCaptureS, fun a => D.laws_markCaptureS a.1 a.2⟩
noncomputable def v_laws_markCaptureS : Env := { ti := look tab, Γ := fns [(20, [], e_laws_markIntS)], loop := fun b => match b with | 0 => some [.slot 1 (.int .i64), .slot 5 (.int .i64), .vec 0 139 y139 true] | _ => none, cut := fun _ => none, deep := fun _ => false }
theorem c_laws_markCaptureS : Contract Try.prog 48 e_laws_markCaptureS.sig e_laws_markCaptureS.F :=
  den_is (E := v_laws_markCaptureS) ⟨tab_ti, tab_eq⟩ (fns_cons c_laws_markIntS (fns_nil _)) mixed Try.func48 (by kernel_rfl) (by kernel_rfl) (fun x => by kernel_rfl)

def s_laws_markContainer : Sig := { params := [.io 162 y162, .io 158 y158, .io 139 y139, .val false y3, .val false y3], res := [.val false y3], groups := [some 4, none] }
noncomputable def e_laws_markContainer : Entry := ⟨s_laws_markContainer, fun a => D.laws_markContainer a.1 a.2.1 a.2.2.1 a.2.2.2.1 a.2.2.2.2⟩
noncomputable def v_laws_markContainer : Env := { ti := look tab, Γ := fns [(31, [], e_laws_markOpS), (33, [], e_laws_markEntryS), (48, [], e_laws_markCaptureS)], loop := fun _ => none, cut := fun _ => none, deep := fun _ => false }
theorem c_laws_markContainer : Contract Try.prog 70 e_laws_markContainer.sig e_laws_markContainer.F :=
  den_is (E := v_laws_markContainer) ⟨tab_ti, tab_eq⟩ (fns_cons c_laws_markOpS (fns_cons c_laws_markEntryS (fns_cons c_laws_markCaptureS (fns_nil _)))) mixed Try.func70 (by kernel_rfl) (by kernel_rfl) (fun x => by kernel_rfl)

def s_laws_heldOpS : Sig := { params := [.val false y40, .val false y3], res := [.val false y3] }
noncomputable def e_laws_heldOpS : Entry := ⟨s_laws_heldOpS, fun a => D.laws_heldOpS a.1 a.2⟩
noncomputable def v_laws_heldOpS : Env := { ti := look tab, Γ := fns [], loop := fun b => match b with | 0 => some [.slot 1 (.int .i64), .slot 5 (.int .i64)] | _ => none, cut := fun _ => none, deep := fun _ => false }
theorem c_laws_heldOpS : Contract Try.prog 151 e_laws_heldOpS.sig e_laws_heldOpS.F :=
  den_is (E := v_laws_heldOpS) ⟨tab_ti, tab_eq⟩ (fns_nil _) mixed Try.func151 (by kernel_rfl) (by kernel_rfl) (fun x => by kernel_rfl)

def s_laws_heldEntryS : Sig := { params := [.val false y37, .val false y3], res := [.val false y3] }
noncomputable def e_laws_heldEntryS : Entry := ⟨s_laws_heldEntryS, fun a => D.laws_heldEntryS a.1 a.2⟩
noncomputable def v_laws_heldEntryS : Env := { ti := look tab, Γ := fns [], loop := fun b => match b with | 0 => some [.slot 1 (.int .i64), .slot 5 (.int .i64)] | _ => none, cut := fun _ => none, deep := fun _ => false }
theorem c_laws_heldEntryS : Contract Try.prog 34 e_laws_heldEntryS.sig e_laws_heldEntryS.F :=
  den_is (E := v_laws_heldEntryS) ⟨tab_ti, tab_eq⟩ (fns_nil _) mixed Try.func34 (by kernel_rfl) (by kernel_rfl) (fun x => by kernel_rfl)

def s_laws_heldIntS : Sig := { params := [.val false y24, .val false y3], res := [.val false y3] }
noncomputable def e_laws_heldIntS : Entry := ⟨s_laws_heldIntS, fun a => D.laws_heldIntS a.1 a.2⟩
noncomputable def v_laws_heldIntS : Env := { ti := look tab, Γ := fns [], loop := fun b => match b with | 0 => some [.slot 1 (.int .i64), .slot 5 (.int .i64)] | _ => none, cut := fun _ => none, deep := fun _ => false }
theorem c_laws_heldIntS : Contract Try.prog 21 e_laws_heldIntS.sig e_laws_heldIntS.F :=
  den_is (E := v_laws_heldIntS) ⟨tab_ti, tab_eq⟩ (fns_nil _) mixed Try.func21 (by kernel_rfl) (by kernel_rfl) (fun x => by kernel_rfl)

def s_laws_heldCaptureS : Sig := { params := [.val false y58, .val false y3], res := [.val false y3] }
noncomputable def e_laws_heldCaptureS : Entry := ⟨s_laws_heldCaptureS, fun a => D.laws_heldCaptureS a.1 a.2⟩
noncomputable def v_laws_heldCaptureS : Env := { ti := look tab, Γ := fns [(21, [], e_laws_heldIntS)], loop := fun b => match b with | 0 => some [.slot 1 (.int .i64), .slot 5 (.int .i64)] | _ => none, cut := fun _ => none, deep := fun _ => false }
theorem c_laws_heldCaptureS : Contract Try.prog 50 e_laws_heldCaptureS.sig e_laws_heldCaptureS.F :=
  den_is (E := v_laws_heldCaptureS) ⟨tab_ti, tab_eq⟩ (fns_cons c_laws_heldIntS (fns_nil _)) mixed Try.func50 (by kernel_rfl) (by kernel_rfl) (fun x => by kernel_rfl)

def s_laws_heldContainer : Sig := { params := [.val true y101, .val false y3], res := [.val false y3] }
noncomputable def e_laws_heldContainer : Entry := ⟨s_laws_heldContainer, fun a => D.laws_heldContainer a.1 a.2⟩
noncomputable def v_laws_heldContainer : Env := { ti := look tab, Γ := fns [(151, [], e_laws_heldOpS), (34, [], e_laws_heldEntryS), (50, [], e_laws_heldCaptureS)], loop := fun _ => none, cut := fun _ => none, deep := fun _ => false }
theorem c_laws_heldContainer : Contract Try.prog 71 e_laws_heldContainer.sig e_laws_heldContainer.F :=
  den_is (E := v_laws_heldContainer) ⟨tab_ti, tab_eq⟩ (fns_cons c_laws_heldOpS (fns_cons c_laws_heldEntryS (fns_cons c_laws_heldCaptureS (fns_nil _)))) mixed Try.func71 (by kernel_rfl) (by kernel_rfl) (fun x => by kernel_rfl)

def s_laws_FnExactSealContainer : Sig := { params := [.val false y33, .val false y49, .val false y54], res := [.val false y4] }
noncomputable def e_laws_FnExactSealContainer : Entry := ⟨s_laws_FnExactSealContainer, fun a => D.laws_FnExactSealContainer a.1 a.2.1 a.2.2⟩
noncomputable def v_laws_FnExactSealContainer : Env := { ti := look tab, Γ := fns [(22, [], e_laws_szOpS), (35, [], e_laws_szEntryS), (40, [], e_laws_szCaptureS), (25, [], e_laws_toOpS), (37, [], e_laws_toEntryS), (43, [], e_laws_toCaptureS), (67, [], e_spec_SealContainer), (68, [], e_impl_SealContainer), (69, [], e_laws_eqContainer), (29, [], e_laws_eqOpS), (28, [], e_laws_eqEntryS), (46, [], e_laws_eqCaptureS), (31, [], e_laws_markOpS), (33, [], e_laws_markEntryS), (48, [], e_laws_markCaptureS), (70, [], e_laws_markContainer), (71, [], e_laws_heldContainer)], loop := fun _ => none, cut := fun _ => none, deep := fun _ => false }
theorem c_laws_FnExactSealContainer : Contract Try.prog 9 e_laws_FnExactSealContainer.sig e_laws_FnExactSealContainer.F :=
  den_is (E := v_laws_FnExactSealContainer) ⟨tab_ti, tab_eq⟩ (fns_cons c_laws_szOpS (fns_cons c_laws_szEntryS (fns_cons c_laws_szCaptureS (fns_cons c_laws_toOpS (fns_cons c_laws_toEntryS (fns_cons c_laws_toCaptureS (fns_cons c_spec_SealContainer (fns_cons c_impl_SealContainer (fns_cons c_laws_eqContainer (fns_cons c_laws_eqOpS (fns_cons c_laws_eqEntryS (fns_cons c_laws_eqCaptureS (fns_cons c_laws_markOpS (fns_cons c_laws_markEntryS (fns_cons c_laws_markCaptureS (fns_cons c_laws_markContainer (fns_cons c_laws_heldContainer (fns_nil _)))))))))))))))))) mixed Try.func9 (by kernel_rfl) (by kernel_rfl) (fun x => by kernel_rfl)

theorem law_true (a : Tup (s_laws_FnExactSealContainer.params.map PTy.den)) (hok : argsOk Try.prog s_laws_FnExactSealContainer.params a) : D.laws_FnExactSealContainer a.1 a.2.1 a.2.2 = some true := D.FnExactSealContainer_true a.1 a.2.1 a.2.2 (Ty.ok_bd (P := Try.prog) (t := y33) (by kernel_rfl) hok.1) (Ty.ok_bd (P := Try.prog) (t := y49) (by kernel_rfl) hok.2.1) (Ty.ok_bd (P := Try.prog) (t := y54) (by kernel_rfl) hok.2.2.1)
theorem lifted (os : Os) (started : os.Started) (H : Type) (enc : TypeId × Value → H) :
    ReturnsInHanded {} Try.checked os 9 .any (Rows.fnExactSealContainerSpec.pre6 enc Try.prog Try.f9 Rows.fnExactSealContainerRow.domain false) (Rows.fnExactSealContainerSpec.post enc Try.prog Try.f9 false true false false) := by
  refine returnsInHanded_of_change_sized (C := Try.checked) (by kernel_rfl) started (by kernel_rfl) Try.func9
    (ChangeSpec.witness6 (enc := enc) (C := Try.checked) false ⟨#[], #[.slice none 0 0, .slice none 0 0, .slice none 0 0], []⟩ 8 (by kernel_rfl) (by kernel_rfl) (by kernel_rfl) (by kernel_rfl)) ?_
  intro W base args ds gs before hval hW hcnd hsz _
  exact law_row (C := Try.checked) rfl c_laws_FnExactSealContainer (N := 8) (by kernel_rfl) (tb := 4) (by kernel_rfl) (by kernel_rfl) (by kernel_rfl) (by kernel_rfl) rfl
    (fun ds h => by
      have h : ds.length = 3 := h
      match ds, h with
      | [d0, d1, d2], _ => rfl)
    bulky_sizeOf (small := fun _ => True) (fun a ds hok _ _ => ⟨_, law_true a hok, rfl⟩) hval hW hsz trivial

theorem over : Rows.fnExactSealContainerRow.holds Try.pinned (OpenSpec.ofChange Rows.fnExactSealContainerSpec) :=
  OpenClaim.holds_of_wide 9 Try.f9 rfl rfl rfl rfl rfl rfl rfl ⟨rfl, rfl, rfl, rfl, rfl⟩ rfl rfl rfl rfl rfl (by kernel_rfl) Try.func9 (by kernel_rfl)
    (of_decide_eq_true (by kernel_rfl)) (by unfold Func.isWrapper; first | (rw [if_pos (by decide +kernel)]; kernel_rfl) | (rw [if_neg (by decide +kernel)]; exact ⟨rfl, rfl⟩))
    (fun os started H enc _ => lifted os started H enc)
end Go.Proofs.Ythmpjemfgejccaa.SxFnExactSealContainer
namespace Go.Proofs.Ythmpjemfgejccaa
theorem fnExactSealContainer_holds : Rows.FnExactSealContainerSaid := SxFnExactSealContainer.over
end Go.Proofs.Ythmpjemfgejccaa
