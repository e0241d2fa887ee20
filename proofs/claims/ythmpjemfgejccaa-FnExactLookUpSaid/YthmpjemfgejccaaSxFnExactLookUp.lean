/- FnExactLookUp returns true for every input, and each input reads as it did. No condition. -/
import Derived.Test.YthmpjemfgejccaaRows
import Derived.Test.YthmpjemfgejccaaPuFnExactLookUp
import Derived.WalkKit
import Derived.ProofKit
import Derived.ShutString
import Derived.SizedLaws
set_option linter.unusedVariables false
set_option maxRecDepth 100000
set_option maxHeartbeats 4000000
namespace Go.Proofs.Ythmpjemfgejccaa.SxFnExactLookUp
open Go Go.Sh Go.RowKit
def y3 : Ty := .int .i64
def y4 : Ty := .bool
def y24 : Ty := .slice 3 y3
def y164 : Ty := .pair y3 (.pair y3 (.pair y3 y3))
def y33 : Ty := .slice 164 y164
def y93 : Ty := .pair y3 (.pair y3 y3)
def y158 : Ty := .pair y3 (.pair y93 y3)
def y37 : Ty := .slice 158 y158
def y162 : Ty := .pair y3 (.pair y3 (.pair y3 y3))
def y40 : Ty := .slice 162 y162
def y85 : Ty := .pair y3 (.pair y3 y3)
def y170 : Ty := .pair y3 (.pair y85 y3)
def y49 : Ty := .slice 170 y170
def y173 : Ty := .pair y3 (.pair y24 y85)
def y175 : Ty := .pair y85 (.pair y3 y173)
def y54 : Ty := .slice 175 y175
def y137 : Ty := .pair y3 (.pair y24 y93)
def y139 : Ty := .pair y93 (.pair y3 y137)
def y58 : Ty := .slice 139 y139
def y120 : Ty := .pair y33 (.pair y49 (.pair y54 y3))
def y80 : Ty := .slice 120 y120
def y243 : Ty := .pair y85 (.pair y3 (.pair y3 y3))
def y81 : Ty := .slice 243 y243
def y83 : Ty := .pair y80 (.pair y81 y80)
def y192 : Ty := .pair y93 (.pair y3 (.pair y3 y3))
def y87 : Ty := .slice 192 y192
def y101 : Ty := .pair y40 (.pair y37 (.pair y58 y3))
def y89 : Ty := .slice 101 y101
def y91 : Ty := .pair y89 (.pair y87 y89)
def tab : List (TypeId × TI) := [(3, { size := 1, bytes := 8, agg := false, ty := some y3 }),
  (4, { size := 1, bytes := 1, agg := false, ty := some y4 }),
  (24, { size := 1, bytes := 24, agg := false, ty := some y24, elem := some 3 }),
  (164, { size := 4, bytes := 32, agg := true, ty := some y164, fields := [(0, 3), (1, 3), (2, 3), (3, 3)] }),
  (33, { size := 1, bytes := 24, agg := false, ty := some y33, elem := some 164 }),
  (93, { size := 3, bytes := 24, agg := true, ty := some y93, fields := [(0, 3), (1, 3), (2, 3)], eq := true }),
  (158, { size := 5, bytes := 40, agg := true, ty := some y158, fields := [(0, 3), (1, 93), (4, 3)] }),
  (37, { size := 1, bytes := 24, agg := false, ty := some y37, elem := some 158 }),
  (162, { size := 4, bytes := 32, agg := true, ty := some y162, fields := [(0, 3), (1, 3), (2, 3), (3, 3)] }),
  (40, { size := 1, bytes := 24, agg := false, ty := some y40, elem := some 162 }),
  (85, { size := 3, bytes := 24, agg := true, ty := some y85, fields := [(0, 3), (1, 3), (2, 3)] }),
  (170, { size := 5, bytes := 40, agg := true, ty := some y170, fields := [(0, 3), (1, 85), (4, 3)] }),
  (49, { size := 1, bytes := 24, agg := false, ty := some y49, elem := some 170 }),
  (173, { size := 5, bytes := 56, agg := true, ty := some y173, fields := [(0, 3), (1, 24), (2, 85)] }),
  (175, { size := 9, bytes := 88, agg := true, ty := some y175, fields := [(0, 85), (3, 3), (4, 173)] }),
  (54, { size := 1, bytes := 24, agg := false, ty := some y54, elem := some 175 }),
  (137, { size := 5, bytes := 56, agg := true, ty := some y137, fields := [(0, 3), (1, 24), (2, 93)] }),
  (139, { size := 9, bytes := 88, agg := true, ty := some y139, fields := [(0, 93), (3, 3), (4, 137)] }),
  (58, { size := 1, bytes := 24, agg := false, ty := some y58, elem := some 139 }),
  (120, { size := 4, bytes := 80, agg := true, ty := some y120, fields := [(0, 33), (1, 49), (2, 54), (3, 3)] }),
  (80, { size := 1, bytes := 24, agg := false, ty := some y80, elem := some 120 }),
  (243, { size := 6, bytes := 48, agg := true, ty := some y243, fields := [(0, 85), (3, 3), (4, 3), (5, 3)] }),
  (81, { size := 1, bytes := 24, agg := false, ty := some y81, elem := some 243 }),
  (83, { size := 3, bytes := 72, agg := true, ty := some y83, fields := [(0, 80), (1, 81), (2, 80)] }),
  (192, { size := 6, bytes := 48, agg := true, ty := some y192, fields := [(0, 93), (3, 3), (4, 3), (5, 3)] }),
  (87, { size := 1, bytes := 24, agg := false, ty := some y87, elem := some 192 }),
  (101, { size := 4, bytes := 80, agg := true, ty := some y101, fields := [(0, 40), (1, 37), (2, 58), (3, 3)] }),
  (89, { size := 1, bytes := 24, agg := false, ty := some y89, elem := some 101 }),
  (91, { size := 3, bytes := 72, agg := true, ty := some y91, fields := [(0, 89), (1, 87), (2, 89)] })]
def look : List (TypeId × TI) → TypeId → Option TI
  | [], _ => none
  | (k, i) :: r, t => if Nat.beq t k = true then some i else look r t
theorem look_ok {P : Program} : ∀ {l : List (TypeId × TI)}, (l.all fun p => tiOk P p.1 p.2) = true → ∀ t i, look l t = some i → tiOk P t i = true
  | [], _, t, i, h => by simp [look] at h
  | (k, j) :: r, h0, t, i, h => by
    simp only [List.all_cons, Bool.and_eq_true] at h0
    simp only [look] at h
    split at h
    · rename_i hk
      simp only [Option.some.injEq] at h
      have := Nat.eq_of_beq_eq_true hk
      subst this; subst h; exact h0.1
    · exact look_ok h0.2 t i h
theorem look_eq {P : Program} : ∀ {l : List (TypeId × TI)}, (l.all fun p => !p.2.eq || eqTop P p.1 p.2.ty) = true → ∀ t i, look l t = some i → i.eq = true → ∀ ty, i.ty = some ty → EqLaw P t ty.zero
  | [], _, t, i, h => by simp [look] at h
  | (k, j) :: r, h0, t, i, h => by
    simp only [List.all_cons, Bool.and_eq_true, Bool.or_eq_true, Bool.not_eq_true'] at h0
    simp only [look] at h
    split at h
    · rename_i hk
      simp only [Option.some.injEq] at h
      have := Nat.eq_of_beq_eq_true hk
      subst this; subst h
      intro he
      exact eqLaw_of (h0.1.resolve_left (by simp [he]))
    · exact look_eq h0.2 t i h
def same : List Nat → List Nat → Bool
  | [], [] => true
  | a :: x, b :: y => Nat.beq a b && same x y
  | _, _ => false
theorem same_eq : ∀ {x y : List Nat}, same x y = true → x = y
  | [], [], _ => rfl
  | a :: x, b :: y, h => by
    simp only [same, Bool.and_eq_true] at h
    rw [Nat.eq_of_beq_eq_true h.1, same_eq h.2]
  | [], _ :: _, h => by simp [same] at h
  | _ :: _, [], h => by simp [same] at h
def fns : List (FuncId × List FuncId × Entry) → FuncId → List FuncId → Option Entry
  | [], _, _ => none
  | (k, c, e) :: r, f, fs => if (Nat.beq f k && same fs c) = true then some e else fns r f fs
theorem fns_nil (P : Program) : ∀ f fs en, fns [] f fs = some en → Contract P f en.sig en.F := fun f fs en h => by simp [fns] at h
theorem fns_cons {P : Program} {k : FuncId} {c : List FuncId} {e : Entry} {r : List (FuncId × List FuncId × Entry)} (hk : Contract P k e.sig e.F) (hr : ∀ f fs en, fns r f fs = some en → Contract P f en.sig en.F) : ∀ f fs en, fns ((k, c, e) :: r) f fs = some en → Contract P f en.sig en.F := fun f fs en h => by
  simp only [fns] at h
  split at h
  · rename_i hf
    simp only [Bool.and_eq_true] at hf
    simp only [Option.some.injEq] at h
    have := Nat.eq_of_beq_eq_true hf.1
    subst this; subst h; exact hk
  · exact hr f fs en h

theorem tab_ti : ∀ t i, look tab t = some i → tiOk Try.prog t i = true := look_ok (by kernel_rfl)
theorem tab_eq : ∀ t i, look tab t = some i → i.eq = true → ∀ ty, i.ty = some ty → EqLaw Try.prog t ty.zero := look_eq (by kernel_rfl)
theorem mixed : Try.prog.follows .mixedOrders = true := by kernel_rfl
def s_laws_szOpS : Sig := { params := [.val false y33, .val false y3], res := [.val false y3] }
noncomputable def e_laws_szOpS : Entry := ⟨s_laws_szOpS, fun a => D.laws_szOpS a.1 a.2⟩
noncomputable def v_laws_szOpS : Env := { ti := look tab, Γ := fns [], loop := fun _ => none, cut := fun _ => none, deep := fun _ => false }
theorem c_laws_szOpS : Contract Try.prog 22 e_laws_szOpS.sig e_laws_szOpS.F :=
  den_is (E := v_laws_szOpS) ⟨tab_ti, tab_eq⟩ (fns_nil _) mixed Try.func22 (by kernel_rfl) (by kernel_rfl) (fun x => by kernel_rfl)

def s_laws_szEntryS : Sig := { params := [.val false y49, .val false y3], res := [.val false y3] }
noncomputable def e_laws_szEntryS : Entry := ⟨s_laws_szEntryS, fun a => D.laws_szEntryS a.1 a.2⟩
noncomputable def v_laws_szEntryS : Env := { ti := look tab, Γ := fns [], loop := fun _ => none, cut := fun _ => none, deep := fun _ => false }
theorem c_laws_szEntryS : Contract Try.prog 35 e_laws_szEntryS.sig e_laws_szEntryS.F :=
  den_is (E := v_laws_szEntryS) ⟨tab_ti, tab_eq⟩ (fns_nil _) mixed Try.func35 (by kernel_rfl) (by kernel_rfl) (fun x => by kernel_rfl)

def s_laws_szIntS : Sig := { params := [.val false y24, .val false y3], res := [.val false y3] }
noncomputable def e_laws_szIntS : Entry := ⟨s_laws_szIntS, fun a => D.laws_szIntS a.1 a.2⟩
noncomputable def v_laws_szIntS : Env := { ti := look tab, Γ := fns [], loop := fun _ => none, cut := fun _ => none, deep := fun _ => false }
theorem c_laws_szIntS : Contract Try.prog 103 e_laws_szIntS.sig e_laws_szIntS.F :=
  den_is (E := v_laws_szIntS) ⟨tab_ti, tab_eq⟩ (fns_nil _) mixed Try.func103 (by kernel_rfl) (by kernel_rfl) (fun x => by kernel_rfl)

def s_laws_szResource : Sig := { params := [.val true y173, .val false y3], res := [.val false y3] }
noncomputable def e_laws_szResource : Entry := ⟨s_laws_szResource, fun a => D.laws_szResource a.1 a.2⟩
noncomputable def v_laws_szResource : Env := { ti := look tab, Γ := fns [(103, [], e_laws_szIntS)], loop := fun _ => none, cut := fun _ => none, deep := fun _ => false }
theorem c_laws_szResource : Contract Try.prog 199 e_laws_szResource.sig e_laws_szResource.F :=
  den_is (E := v_laws_szResource) ⟨tab_ti, tab_eq⟩ (fns_cons c_laws_szIntS (fns_nil _)) mixed Try.func199 (by kernel_rfl) (by kernel_rfl) (fun x => by kernel_rfl)

def s_laws_szCapture : Sig := { params := [.val true y175, .val false y3], res := [.val false y3] }
noncomputable def e_laws_szCapture : Entry := ⟨s_laws_szCapture, fun a => D.laws_szCapture a.1 a.2⟩
noncomputable def v_laws_szCapture : Env := { ti := look tab, Γ := fns [(199, [], e_laws_szResource)], loop := fun _ => none, cut := fun _ => none, deep := fun _ => false }
theorem c_laws_szCapture : Contract Try.prog 121 e_laws_szCapture.sig e_laws_szCapture.F :=
  den_is (E := v_laws_szCapture) ⟨tab_ti, tab_eq⟩ (fns_cons c_laws_szResource (fns_nil _)) mixed Try.func121 (by kernel_rfl) (by kernel_rfl) (fun x => by kernel_rfl)

def s_laws_szCaptureS : Sig := { params := [.val false y54, .val false y3], res := [.val false y3] }
noncomputable def e_laws_szCaptureS : Entry := ⟨s_laws_szCaptureS, fun a => D.laws_szCaptureS a.1 a.2⟩
noncomputable def v_laws_szCaptureS : Env := { ti := look tab, Γ := fns [(121, [], e_laws_szCapture)], loop := fun b => match b with | 0 => some [.slot 1 (.int .i64), .slot 5 (.int .i64)] | _ => none, cut := fun _ => none, deep := fun _ => false }
theorem c_laws_szCaptureS : Contract Try.prog 40 e_laws_szCaptureS.sig e_laws_szCaptureS.F :=
  den_is (E := v_laws_szCaptureS) ⟨tab_ti, tab_eq⟩ (fns_cons c_laws_szCapture (fns_nil _)) mixed Try.func40 (by kernel_rfl) (by kernel_rfl) (fun x => by kernel_rfl)

def s_laws_szContainer : Sig := { params := [.val true y120, .val false y3], res := [.val false y3] }
noncomputable def e_laws_szContainer : Entry := ⟨s_laws_szContainer, fun a => D.laws_szContainer a.1 a.2⟩
noncomputable def v_laws_szContainer : Env := { ti := look tab, Γ := fns [(22, [], e_laws_szOpS), (35, [], e_laws_szEntryS), (40, [], e_laws_szCaptureS)], loop := fun _ => none, cut := fun _ => none, deep := fun _ => false }
theorem c_laws_szContainer : Contract Try.prog 83 e_laws_szContainer.sig e_laws_szContainer.F :=
  den_is (E := v_laws_szContainer) ⟨tab_ti, tab_eq⟩ (fns_cons c_laws_szOpS (fns_cons c_laws_szEntryS (fns_cons c_laws_szCaptureS (fns_nil _)))) mixed Try.func83 (by kernel_rfl) (by kernel_rfl) (fun x => by kernel_rfl)

def s_laws_szContainerS : Sig := { params := [.val false y80, .val false y3], res := [.val false y3] }
noncomputable def e_laws_szContainerS : Entry := ⟨s_laws_szContainerS, fun a => D.laws_szContainerS a.1 a.2⟩
noncomputable def v_laws_szContainerS : Env := { ti := look tab, Γ := fns [(83, [], e_laws_szContainer)], loop := fun b => match b with | 0 => some [.slot 1 (.int .i64), .slot 5 (.int .i64)] | _ => none, cut := fun _ => none, deep := fun _ => false }
theorem c_laws_szContainerS : Contract Try.prog 134 e_laws_szContainerS.sig e_laws_szContainerS.F :=
  den_is (E := v_laws_szContainerS) ⟨tab_ti, tab_eq⟩ (fns_cons c_laws_szContainer (fns_nil _)) mixed Try.func134 (by kernel_rfl) (by kernel_rfl) (fun x => by kernel_rfl)

def s_laws_szFoundS : Sig := { params := [.val false y81, .val false y3], res := [.val false y3] }
noncomputable def e_laws_szFoundS : Entry := ⟨s_laws_szFoundS, fun a => D.laws_szFoundS a.1 a.2⟩
noncomputable def v_laws_szFoundS : Env := { ti := look tab, Γ := fns [], loop := fun _ => none, cut := fun _ => none, deep := fun _ => false }
theorem c_laws_szFoundS : Contract Try.prog 135 e_laws_szFoundS.sig e_laws_szFoundS.F :=
  den_is (E := v_laws_szFoundS) ⟨tab_ti, tab_eq⟩ (fns_nil _) mixed Try.func135 (by kernel_rfl) (by kernel_rfl) (fun x => by kernel_rfl)

def s_laws_szDisk : Sig := { params := [.val true y83, .val false y3], res := [.val false y3] }
noncomputable def e_laws_szDisk : Entry := ⟨s_laws_szDisk, fun a => D.laws_szDisk a.1 a.2⟩
noncomputable def v_laws_szDisk : Env := { ti := look tab, Γ := fns [(134, [], e_laws_szContainerS), (135, [], e_laws_szFoundS)], loop := fun _ => none, cut := fun _ => none, deep := fun _ => false }
theorem c_laws_szDisk : Contract Try.prog 57 e_laws_szDisk.sig e_laws_szDisk.F :=
  den_is (E := v_laws_szDisk) ⟨tab_ti, tab_eq⟩ (fns_cons c_laws_szContainerS (fns_cons c_laws_szFoundS (fns_nil _))) mixed Try.func57 (by kernel_rfl) (by kernel_rfl) (fun x => by kernel_rfl)

def s_laws_toOp : Sig := { params := [.val true y164], res := [.val true y162] }
noncomputable def e_laws_toOp : Entry := ⟨s_laws_toOp, fun a => D.laws_toOp a⟩
noncomputable def v_laws_toOp : Env := { ti := look tab, Γ := fns [], loop := fun _ => none, cut := fun _ => none, deep := fun _ => false }
theorem c_laws_toOp : Contract Try.prog 110 e_laws_toOp.sig e_laws_toOp.F :=
  den_is (E := v_laws_toOp) ⟨tab_ti, tab_eq⟩ (fns_nil _) mixed Try.func110 (by kernel_rfl) (by kernel_rfl) (fun x => by kernel_rfl)

def s_laws_toOpS : Sig := { params := [.val false y33], res := [.row 162 y162 false] }
noncomputable def e_laws_toOpS : Entry := ⟨s_laws_toOpS, fun a => D.laws_toOpS a⟩
noncomputable def v_laws_toOpS : Env := { ti := look tab, Γ := fns [(110, [], e_laws_toOp)], loop := fun b => match b with | 0 => some [.slot 4 (.int .i64), .vec 3 162 y162 false] | _ => none, cut := fun _ => none, deep := fun _ => false }
theorem c_laws_toOpS : Contract Try.prog 25 e_laws_toOpS.sig e_laws_toOpS.F :=
  den_is (E := v_laws_toOpS) ⟨tab_ti, tab_eq⟩ (fns_cons c_laws_toOp (fns_nil _)) mixed Try.func25 (by kernel_rfl) (by kernel_rfl) (fun x => by kernel_rfl)

def s_laws_toAddress : Sig := { params := [.val true y85], res := [.val true y93] }
noncomputable def e_laws_toAddress : Entry := ⟨s_laws_toAddress, fun a => D.laws_toAddress a⟩
noncomputable def v_laws_toAddress : Env := { ti := look tab, Γ := fns [], loop := fun _ => none, cut := fun _ => none, deep := fun _ => false }
theorem c_laws_toAddress : Contract Try.prog 60 e_laws_toAddress.sig e_laws_toAddress.F :=
  den_is (E := v_laws_toAddress) ⟨tab_ti, tab_eq⟩ (fns_nil _) mixed Try.func60 (by kernel_rfl) (by kernel_rfl) (fun x => by kernel_rfl)

def s_laws_toEntry : Sig := { params := [.val true y170], res := [.val true y158] }
noncomputable def e_laws_toEntry : Entry := ⟨s_laws_toEntry, fun a => D.laws_toEntry a⟩
noncomputable def v_laws_toEntry : Env := { ti := look tab, Γ := fns [(60, [], e_laws_toAddress)], loop := fun _ => none, cut := fun _ => none, deep := fun _ => false }
theorem c_laws_toEntry : Contract Try.prog 120 e_laws_toEntry.sig e_laws_toEntry.F :=
  den_is (E := v_laws_toEntry) ⟨tab_ti, tab_eq⟩ (fns_cons c_laws_toAddress (fns_nil _)) mixed Try.func120 (by kernel_rfl) (by kernel_rfl) (fun x => by kernel_rfl)

def s_laws_toEntryS : Sig := { params := [.val false y49], res := [.row 158 y158 false] }
noncomputable def e_laws_toEntryS : Entry := ⟨s_laws_toEntryS, fun a => D.laws_toEntryS a⟩
noncomputable def v_laws_toEntryS : Env := { ti := look tab, Γ := fns [(120, [], e_laws_toEntry)], loop := fun b => match b with | 0 => some [.slot 4 (.int .i64), .vec 3 158 y158 false] | _ => none, cut := fun _ => none, deep := fun _ => false }
theorem c_laws_toEntryS : Contract Try.prog 37 e_laws_toEntryS.sig e_laws_toEntryS.F :=
  den_is (E := v_laws_toEntryS) ⟨tab_ti, tab_eq⟩ (fns_cons c_laws_toEntry (fns_nil _)) mixed Try.func37 (by kernel_rfl) (by kernel_rfl) (fun x => by kernel_rfl)

def s_laws_toIntS : Sig := { params := [.val false y24], res := [.row 3 y3 false] }
noncomputable def e_laws_toIntS : Entry := ⟨s_laws_toIntS, fun a => D.laws_toIntS a⟩
noncomputable def v_laws_toIntS : Env := { ti := look tab, Γ := fns [], loop := fun b => match b with | 0 => some [.slot 4 (.int .i64), .vec 3 3 y3 false] | _ => none, cut := fun _ => none, deep := fun _ => false }
theorem c_laws_toIntS : Contract Try.prog 111 e_laws_toIntS.sig e_laws_toIntS.F :=
  den_is (E := v_laws_toIntS) ⟨tab_ti, tab_eq⟩ (fns_nil _) mixed Try.func111 (by kernel_rfl) (by kernel_rfl) (fun x => by kernel_rfl)

def s_laws_toResource : Sig := { params := [.val true y173], res := [.val false y3, .row 3 y3 false, .val false y3, .val false y3, .val false y3], rgroups := [some 5] }
noncomputable def e_laws_toResource : Entry := ⟨s_laws_toResource, fun a => D.laws_toResource a⟩
noncomputable def v_laws_toResource : Env := { ti := look tab, Γ := fns [(111, [], e_laws_toIntS), (60, [], e_laws_toAddress)], loop := fun _ => none, cut := fun _ => none, deep := fun _ => false }
theorem c_laws_toResource : Contract Try.prog 202 e_laws_toResource.sig e_laws_toResource.F :=
  den_is (E := v_laws_toResource) ⟨tab_ti, tab_eq⟩ (fns_cons c_laws_toIntS (fns_cons c_laws_toAddress (fns_nil _))) mixed Try.func202 (by kernel_rfl) (by kernel_rfl) (fun x => by kernel_rfl)

def s_laws_toCapture : Sig := { params := [.val true y175], res := [.val false y3, .val false y3, .val false y3, .val false y3, .val false y3, .row 3 y3 false, .val false y3, .val false y3, .val false y3], rgroups := [some 9] }
noncomputable def e_laws_toCapture : Entry := ⟨s_laws_toCapture, fun a => D.laws_toCapture a⟩
noncomputable def v_laws_toCapture : Env := { ti := look tab, Γ := fns [(60, [], e_laws_toAddress), (202, [], e_laws_toResource)], loop := fun _ => none, cut := fun _ => none, deep := fun _ => false }
theorem c_laws_toCapture : Contract Try.prog 124 e_laws_toCapture.sig e_laws_toCapture.F :=
  den_is (E := v_laws_toCapture) ⟨tab_ti, tab_eq⟩ (fns_cons c_laws_toAddress (fns_cons c_laws_toResource (fns_nil _))) mixed Try.func124 (by kernel_rfl) (by kernel_rfl) (fun x => by kernel_rfl)

def s_laws_toCaptureS : Sig := { params := [.val false y54], res := [.row 139 y139 true] }
noncomputable def e_laws_toCaptureS : Entry := ⟨s_laws_toCaptureS, fun a => D.laws_toCaptureS a⟩
noncomputable def v_laws_toCaptureS : Env := { ti := look tab, Γ := fns [(124, [], e_laws_toCapture)], loop := fun b => match b with | 0 => some [.slot 4 (.int .i64), .vec 3 139 y139 true] | _ => none, cut := fun _ => none, deep := fun t => Nat.beq t 7 }
theorem c_laws_toCaptureS : Contract Try.prog 43 e_laws_toCaptureS.sig e_laws_toCaptureS.F :=
  den_is (E := v_laws_toCaptureS) ⟨tab_ti, tab_eq⟩ (fns_cons c_laws_toCapture (fns_nil _)) mixed Try.func43 (by kernel_rfl) (by kernel_rfl) (fun x => by kernel_rfl)

def s_laws_toContainer : Sig := { params := [.val true y120], res := [.row 162 y162 false, .row 158 y158 false, .row 139 y139 true, .val false y3], rgroups := [some 4] }
noncomputable def e_laws_toContainer : Entry := ⟨s_laws_toContainer, fun a => D.laws_toContainer a⟩
noncomputable def v_laws_toContainer : Env := { ti := look tab, Γ := fns [(25, [], e_laws_toOpS), (37, [], e_laws_toEntryS), (43, [], e_laws_toCaptureS)], loop := fun _ => none, cut := fun _ => none, deep := fun _ => false }
theorem c_laws_toContainer : Contract Try.prog 85 e_laws_toContainer.sig e_laws_toContainer.F :=
  den_is (E := v_laws_toContainer) ⟨tab_ti, tab_eq⟩ (fns_cons c_laws_toOpS (fns_cons c_laws_toEntryS (fns_cons c_laws_toCaptureS (fns_nil _)))) mixed Try.func85 (by kernel_rfl) (by kernel_rfl) (fun x => by kernel_rfl)

def s_laws_toContainerS : Sig := { params := [.val false y80], res := [.row 101 y101 true] }
noncomputable def e_laws_toContainerS : Entry := ⟨s_laws_toContainerS, fun a => D.laws_toContainerS a⟩
noncomputable def v_laws_toContainerS : Env := { ti := look tab, Γ := fns [(85, [], e_laws_toContainer)], loop := fun b => match b with | 0 => some [.slot 4 (.int .i64), .vec 3 101 y101 true] | _ => none, cut := fun _ => none, deep := fun t => Nat.beq t 7 }
theorem c_laws_toContainerS : Contract Try.prog 136 e_laws_toContainerS.sig e_laws_toContainerS.F :=
  den_is (E := v_laws_toContainerS) ⟨tab_ti, tab_eq⟩ (fns_cons c_laws_toContainer (fns_nil _)) mixed Try.func136 (by kernel_rfl) (by kernel_rfl) (fun x => by kernel_rfl)

def s_laws_toFound : Sig := { params := [.val true y243], res := [.val true y192] }
noncomputable def e_laws_toFound : Entry := ⟨s_laws_toFound, fun a => D.laws_toFound a⟩
noncomputable def v_laws_toFound : Env := { ti := look tab, Γ := fns [(60, [], e_laws_toAddress)], loop := fun _ => none, cut := fun _ => none, deep := fun _ => false }
theorem c_laws_toFound : Contract Try.prog 209 e_laws_toFound.sig e_laws_toFound.F :=
  den_is (E := v_laws_toFound) ⟨tab_ti, tab_eq⟩ (fns_cons c_laws_toAddress (fns_nil _)) mixed Try.func209 (by kernel_rfl) (by kernel_rfl) (fun x => by kernel_rfl)

def s_laws_toFoundS : Sig := { params := [.val false y81], res := [.row 192 y192 false] }
noncomputable def e_laws_toFoundS : Entry := ⟨s_laws_toFoundS, fun a => D.laws_toFoundS a⟩
noncomputable def v_laws_toFoundS : Env := { ti := look tab, Γ := fns [(209, [], e_laws_toFound)], loop := fun b => match b with | 0 => some [.slot 4 (.int .i64), .vec 3 192 y192 false] | _ => none, cut := fun _ => none, deep := fun _ => false }
theorem c_laws_toFoundS : Contract Try.prog 137 e_laws_toFoundS.sig e_laws_toFoundS.F :=
  den_is (E := v_laws_toFoundS) ⟨tab_ti, tab_eq⟩ (fns_cons c_laws_toFound (fns_nil _)) mixed Try.func137 (by kernel_rfl) (by kernel_rfl) (fun x => by kernel_rfl)

def s_laws_toDisk : Sig := { params := [.val true y83], res := [.row 101 y101 true, .row 192 y192 false, .row 101 y101 true], rgroups := [some 3] }
noncomputable def e_laws_toDisk : Entry := ⟨s_laws_toDisk, fun a => D.laws_toDisk a⟩
noncomputable def v_laws_toDisk : Env := { ti := look tab, Γ := fns [(136, [], e_laws_toContainerS), (137, [], e_laws_toFoundS)], loop := fun _ => none, cut := fun _ => none, deep := fun _ => false }
theorem c_laws_toDisk : Contract Try.prog 59 e_laws_toDisk.sig e_laws_toDisk.F :=
  den_is (E := v_laws_toDisk) ⟨tab_ti, tab_eq⟩ (fns_cons c_laws_toContainerS (fns_cons c_laws_toFoundS (fns_nil _))) mixed Try.func59 (by kernel_rfl) (by kernel_rfl) (fun x => by kernel_rfl)

def s_spec_LookUp : Sig := { params := [.val true y91, .val true y93], res := [.row 192 y192 false] }
noncomputable def e_spec_LookUp : Entry := ⟨s_spec_LookUp, fun a => D.spec_LookUp a.1 a.2⟩
noncomputable def v_spec_LookUp : Env := { ti := look tab, Γ := fns [], loop := fun b => match b with | 0 => some [.slot 5 (.own 192 y192 false), .slot 6 (.int .i64)] | _ => none, cut := fun _ => none, deep := fun _ => false }
theorem c_spec_LookUp : Contract Try.prog 58 e_spec_LookUp.sig e_spec_LookUp.F :=
  den_is (E := v_spec_LookUp) ⟨tab_ti, tab_eq⟩ (fns_nil _) mixed Try.func58 (by kernel_rfl) (by kernel_rfl) (fun x => by kernel_rfl)

def s_impl_LookUp : Sig := { params := [.val true y91, .val true y93], res := [.row 192 y192 false] }
noncomputable def e_impl_LookUp : Entry := ⟨s_impl_LookUp, fun a => D.impl_LookUp a.1 a.2⟩
noncomputable def v_impl_LookUp : Env := { ti := look tab, Γ := fns [], loop := fun b => match b with | 0 => some [.slot 5 (.own 192 y192 false), .slot 11 (.int .i64)] | _ => none, cut := fun _ => none, deep := fun _ => false }
theorem c_impl_LookUp : Contract Try.prog 61 e_impl_LookUp.sig e_impl_LookUp.F :=
  den_is (E := v_impl_LookUp) ⟨tab_ti, tab_eq⟩ (fns_nil _) mixed Try.func61 (by kernel_rfl) (by kernel_rfl) (fun x => by kernel_rfl)

def s_laws_eqAddress : Sig := { params := [.val true y93, .val true y93], res := [.val false y4] }
noncomputable def e_laws_eqAddress : Entry := ⟨s_laws_eqAddress, fun a => D.laws_eqAddress a.1 a.2⟩
noncomputable def v_laws_eqAddress : Env := { ti := look tab, Γ := fns [], loop := fun _ => none, cut := fun _ => none, deep := fun _ => false }
theorem c_laws_eqAddress : Contract Try.prog 161 e_laws_eqAddress.sig e_laws_eqAddress.F :=
  den_is (E := v_laws_eqAddress) ⟨tab_ti, tab_eq⟩ (fns_nil _) mixed Try.func161 (by kernel_rfl) (by kernel_rfl) (fun x => by kernel_rfl)

def s_laws_eqFound : Sig := { params := [.val true y192, .val true y192], res := [.val false y4] }
noncomputable def e_laws_eqFound : Entry := ⟨s_laws_eqFound, fun a => D.laws_eqFound a.1 a.2⟩
noncomputable def v_laws_eqFound : Env := { ti := look tab, Γ := fns [(161, [], e_laws_eqAddress)], loop := fun _ => none, cut := fun _ => none, deep := fun _ => false }
theorem c_laws_eqFound : Contract Try.prog 138 e_laws_eqFound.sig e_laws_eqFound.F :=
  den_is (E := v_laws_eqFound) ⟨tab_ti, tab_eq⟩ (fns_cons c_laws_eqAddress (fns_nil _)) mixed Try.func138 (by kernel_rfl) (by kernel_rfl) (fun x => by kernel_rfl)

def s_laws_eqFoundS : Sig := { params := [.val false y87, .val false y87], res := [.val false y4] }
noncomputable def e_laws_eqFoundS : Entry := ⟨s_laws_eqFoundS, fun a => D.laws_eqFoundS a.1 a.2⟩
noncomputable def v_laws_eqFoundS : Env := { ti := look tab, Γ := fns [(138, [], e_laws_eqFound)], loop := fun b => match b with | 0 => some [.slot 5 (.int .i64)] | _ => none, cut := fun _ => none, deep := fun _ => false }
theorem c_laws_eqFoundS : Contract Try.prog 62 e_laws_eqFoundS.sig e_laws_eqFoundS.F :=
  den_is (E := v_laws_eqFoundS) ⟨tab_ti, tab_eq⟩ (fns_cons c_laws_eqFound (fns_nil _)) mixed Try.func62 (by kernel_rfl) (by kernel_rfl) (fun x => by kernel_rfl)

def s_laws_eqOp : Sig := { params := [.val true y162, .val true y162], res := [.val false y4] }
noncomputable def e_laws_eqOp : Entry := ⟨s_laws_eqOp, fun a => D.laws_eqOp a.1 a.2⟩
noncomputable def v_laws_eqOp : Env := { ti := look tab, Γ := fns [], loop := fun _ => none, cut := fun _ => none, deep := fun _ => false }
theorem c_laws_eqOp : Contract Try.prog 119 e_laws_eqOp.sig e_laws_eqOp.F :=
  den_is (E := v_laws_eqOp) ⟨tab_ti, tab_eq⟩ (fns_nil _) mixed Try.func119 (by kernel_rfl) (by kernel_rfl) (fun x => by kernel_rfl)

def s_laws_eqOpS : Sig := { params := [.val false y40, .val false y40], res := [.val false y4] }
noncomputable def e_laws_eqOpS : Entry := ⟨s_laws_eqOpS, fun a => D.laws_eqOpS a.1 a.2⟩
noncomputable def v_laws_eqOpS : Env := { ti := look tab, Γ := fns [(119, [], e_laws_eqOp)], loop := fun b => match b with | 0 => some [.slot 5 (.int .i64)] | _ => none, cut := fun _ => none, deep := fun _ => false }
theorem c_laws_eqOpS : Contract Try.prog 29 e_laws_eqOpS.sig e_laws_eqOpS.F :=
  den_is (E := v_laws_eqOpS) ⟨tab_ti, tab_eq⟩ (fns_cons c_laws_eqOp (fns_nil _)) mixed Try.func29 (by kernel_rfl) (by kernel_rfl) (fun x => by kernel_rfl)

def s_laws_eqEntry : Sig := { params := [.val true y158, .val true y158], res := [.val false y4] }
noncomputable def e_laws_eqEntry : Entry := ⟨s_laws_eqEntry, fun a => D.laws_eqEntry a.1 a.2⟩
noncomputable def v_laws_eqEntry : Env := { ti := look tab, Γ := fns [(161, [], e_laws_eqAddress)], loop := fun _ => none, cut := fun _ => none, deep := fun _ => false }
theorem c_laws_eqEntry : Contract Try.prog 118 e_laws_eqEntry.sig e_laws_eqEntry.F :=
  den_is (E := v_laws_eqEntry) ⟨tab_ti, tab_eq⟩ (fns_cons c_laws_eqAddress (fns_nil _)) mixed Try.func118 (by kernel_rfl) (by kernel_rfl) (fun x => by kernel_rfl)

def s_laws_eqEntryS : Sig := { params := [.val false y37, .val false y37], res := [.val false y4] }
noncomputable def e_laws_eqEntryS : Entry := ⟨s_laws_eqEntryS, fun a => D.laws_eqEntryS a.1 a.2⟩
noncomputable def v_laws_eqEntryS : Env := { ti := look tab, Γ := fns [(118, [], e_laws_eqEntry)], loop := fun b => match b with | 0 => some [.slot 5 (.int .i64)] | _ => none, cut := fun _ => none, deep := fun _ => false }
theorem c_laws_eqEntryS : Contract Try.prog 28 e_laws_eqEntryS.sig e_laws_eqEntryS.F :=
  den_is (E := v_laws_eqEntryS) ⟨tab_ti, tab_eq⟩ (fns_cons c_laws_eqEntry (fns_nil _)) mixed Try.func28 (by kernel_rfl) (by kernel_rfl) (fun x => by kernel_rfl)

def s_laws_eqIntS : Sig := { params := [.val false y24, .val false y24], res := [.val false y4] }
noncomputable def e_laws_eqIntS : Entry := ⟨s_laws_eqIntS, fun a => D.laws_eqIntS a.1 a.2⟩
noncomputable def v_laws_eqIntS : Env := { ti := look tab, Γ := fns [], loop := fun b => match b with | 0 => some [.slot 5 (.int .i64)] | _ => none, cut := fun _ => none, deep := fun _ => false }
theorem c_laws_eqIntS : Contract Try.prog 17 e_laws_eqIntS.sig e_laws_eqIntS.F :=
  den_is (E := v_laws_eqIntS) ⟨tab_ti, tab_eq⟩ (fns_nil _) mixed Try.func17 (by kernel_rfl) (by kernel_rfl) (fun x => by kernel_rfl)

def s_laws_eqResource : Sig := { params := [.val true y137, .val true y137], res := [.val false y4] }
noncomputable def e_laws_eqResource : Entry := ⟨s_laws_eqResource, fun a => D.laws_eqResource a.1 a.2⟩
noncomputable def v_laws_eqResource : Env := { ti := look tab, Γ := fns [(17, [], e_laws_eqIntS), (161, [], e_laws_eqAddress)], loop := fun _ => none, cut := fun _ => none, deep := fun _ => false }
theorem c_laws_eqResource : Contract Try.prog 206 e_laws_eqResource.sig e_laws_eqResource.F :=
  den_is (E := v_laws_eqResource) ⟨tab_ti, tab_eq⟩ (fns_cons c_laws_eqIntS (fns_cons c_laws_eqAddress (fns_nil _))) mixed Try.func206 (by kernel_rfl) (by kernel_rfl) (fun x => by kernel_rfl)

def s_laws_eqCapture : Sig := { params := [.val true y139, .val true y139], res := [.val false y4] }
noncomputable def e_laws_eqCapture : Entry := ⟨s_laws_eqCapture, fun a => D.laws_eqCapture a.1 a.2⟩
noncomputable def v_laws_eqCapture : Env := { ti := look tab, Γ := fns [(161, [], e_laws_eqAddress), (206, [], e_laws_eqResource)], loop := fun _ => none, cut := fun _ => none, deep := fun _ => false }
theorem c_laws_eqCapture : Contract Try.prog 130 e_laws_eqCapture.sig e_laws_eqCapture.F :=
  den_is (E := v_laws_eqCapture) ⟨tab_ti, tab_eq⟩ (fns_cons c_laws_eqAddress (fns_cons c_laws_eqResource (fns_nil _))) mixed Try.func130 (by kernel_rfl) (by kernel_rfl) (fun x => by kernel_rfl)

def s_laws_eqCaptureS : Sig := { params := [.val false y58, .val false y58], res := [.val false y4] }
noncomputable def e_laws_eqCaptureS : Entry := ⟨s_laws_eqCaptureS, fun a => D.laws_eqCaptureS a.1 a.2⟩
noncomputable def v_laws_eqCaptureS : Env := { ti := look tab, Γ := fns [(130, [], e_laws_eqCapture)], loop := fun b => match b with | 0 => some [.slot 5 (.int .i64)] | _ => none, cut := fun _ => none, deep := fun _ => false }
theorem c_laws_eqCaptureS : Contract Try.prog 46 e_laws_eqCaptureS.sig e_laws_eqCaptureS.F :=
  den_is (E := v_laws_eqCaptureS) ⟨tab_ti, tab_eq⟩ (fns_cons c_laws_eqCapture (fns_nil _)) mixed Try.func46 (by kernel_rfl) (by kernel_rfl) (fun x => by kernel_rfl)

def s_laws_eqContainer : Sig := { params := [.val true y101, .val true y101], res := [.val false y4] }
noncomputable def e_laws_eqContainer : Entry := ⟨s_laws_eqContainer, fun a => D.laws_eqContainer a.1 a.2⟩
noncomputable def v_laws_eqContainer : Env := { ti := look tab, Γ := fns [(29, [], e_laws_eqOpS), (28, [], e_laws_eqEntryS), (46, [], e_laws_eqCaptureS)], loop := fun _ => none, cut := fun _ => none, deep := fun _ => false }
theorem c_laws_eqContainer : Contract Try.prog 69 e_laws_eqContainer.sig e_laws_eqContainer.F :=
  den_is (E := v_laws_eqContainer) ⟨tab_ti, tab_eq⟩ (fns_cons c_laws_eqOpS (fns_cons c_laws_eqEntryS (fns_cons c_laws_eqCaptureS (fns_nil _)))) mixed Try.func69 (by kernel_rfl) (by kernel_rfl) (fun x => by kernel_rfl)

def s_laws_eqContainerS : Sig := { params := [.val false y89, .val false y89], res := [.val false y4] }
noncomputable def e_laws_eqContainerS : Entry := ⟨s_laws_eqContainerS, fun a => D.laws_eqContainerS a.1 a.2⟩
noncomputable def v_laws_eqContainerS : Env := { ti := look tab, Γ := fns [(69, [], e_laws_eqContainer)], loop := fun b => match b with | 0 => some [.slot 5 (.int .i64)] | _ => none, cut := fun _ => none, deep := fun _ => false }
theorem c_laws_eqContainerS : Contract Try.prog 139 e_laws_eqContainerS.sig e_laws_eqContainerS.F :=
  den_is (E := v_laws_eqContainerS) ⟨tab_ti, tab_eq⟩ (fns_cons c_laws_eqContainer (fns_nil _)) mixed Try.func139 (by kernel_rfl) (by kernel_rfl) (fun x => by kernel_rfl)

def s_laws_eqDisk : Sig := { params := [.val true y91, .val true y91], res := [.val false y4] }
noncomputable def e_laws_eqDisk : Entry := ⟨s_laws_eqDisk, fun a => D.laws_eqDisk a.1 a.2⟩
noncomputable def v_laws_eqDisk : Env := { ti := look tab, Γ := fns [(139, [], e_laws_eqContainerS), (62, [], e_laws_eqFoundS)], loop := fun _ => none, cut := fun _ => none, deep := fun _ => false }
theorem c_laws_eqDisk : Contract Try.prog 63 e_laws_eqDisk.sig e_laws_eqDisk.F :=
  den_is (E := v_laws_eqDisk) ⟨tab_ti, tab_eq⟩ (fns_cons c_laws_eqContainerS (fns_cons c_laws_eqFoundS (fns_nil _))) mixed Try.func63 (by kernel_rfl) (by kernel_rfl) (fun x => by kernel_rfl)

def s_laws_markOpS : Sig := { params := [.io 162 y162, .val false y3], res := [.val false y3] }
noncomputable def e_laws_markOpS : Entry := ⟨s_laws_markOpS, fun a => D.laws_markOpS a.1 a.2⟩
noncomputable def v_laws_markOpS : Env := { ti := look tab, Γ := fns [], loop := fun b => match b with | 0 => some [.slot 1 (.int .i64), .slot 5 (.int .i64), .vec 0 162 y162 true] | _ => none, cut := fun _ => none, deep := fun _ => false }
theorem c_laws_markOpS : Contract Try.prog 31 e_laws_markOpS.sig e_laws_markOpS.F :=
  den_is (E := v_laws_markOpS) ⟨tab_ti, tab_eq⟩ (fns_nil _) mixed Try.func31 (by kernel_rfl) (by kernel_rfl) (fun x => by kernel_rfl)

def s_laws_markEntryS : Sig := { params := [.io 158 y158, .val false y3], res := [.val false y3] }
noncomputable def e_laws_markEntryS : Entry := ⟨s_laws_markEntryS, fun a => D.laws_markEntryS a.1 a.2⟩
noncomputable def v_laws_markEntryS : Env := { ti := look tab, Γ := fns [], loop := fun b => match b with | 0 => some [.slot 1 (.int .i64), .slot 5 (.int .i64), .vec 0 158 y158 true] | _ => none, cut := fun _ => none, deep := fun _ => false }
theorem c_laws_markEntryS : Contract Try.prog 33 e_laws_markEntryS.sig e_laws_markEntryS.F :=
  den_is (E := v_laws_markEntryS) ⟨tab_ti, tab_eq⟩ (fns_nil _) mixed Try.func33 (by kernel_rfl) (by kernel_rfl) (fun x => by kernel_rfl)

def s_laws_markIntS : Sig := { params := [.io 3 y3, .val false y3], res := [.val false y3] }
noncomputable def e_laws_markIntS : Entry := ⟨s_laws_markIntS, fun a => D.laws_markIntS a.1 a.2⟩
noncomputable def v_laws_markIntS : Env := { ti := look tab, Γ := fns [], loop := fun b => match b with | 0 => some [.slot 1 (.int .i64), .slot 5 (.int .i64), .vec 0 3 y3 true] | _ => none, cut := fun _ => none, deep := fun _ => false }
theorem c_laws_markIntS : Contract Try.prog 20 e_laws_markIntS.sig e_laws_markIntS.F :=
  den_is (E := v_laws_markIntS) ⟨tab_ti, tab_eq⟩ (fns_nil _) mixed Try.func20 (by kernel_rfl) (by kernel_rfl) (fun x => by kernel_rfl)

def s_laws_markCaptureS : Sig := { params := [.io 139 y139, .val false y3], res := [.val false y3] }
noncomputable def e_laws_markCaptureS : Entry := ⟨s_laws_markCaptureS, fun a => D.laws_markCaptureS a.1 a.2⟩
noncomputable def v_laws_markCaptureS : Env := { ti := look tab, Γ := fns [(20, [], e_laws_markIntS)], loop := fun b => match b with | 0 => some [.slot 1 (.int .i64), .slot 5 (.int .i64), .vec 0 139 y139 true] | _ => none, cut := fun _ => none, deep := fun _ => false }
theorem c_laws_markCaptureS : Contract Try.prog 48 e_laws_markCaptureS.sig e_laws_markCaptureS.F :=
  den_is (E := v_laws_markCaptureS) ⟨tab_ti, tab_eq⟩ (fns_cons c_laws_markIntS (fns_nil _)) mixed Try.func48 (by kernel_rfl) (by kernel_rfl) (fun x => by kernel_rfl)

def s_laws_markContainerS : Sig := { params := [.io 101 y101, .val false y3], res := [.val false y3] }
noncomputable def e_laws_markContainerS : Entry := ⟨s_laws_markContainerS, fun a => D.laws_markContainerS a.1 a.2⟩
noncomputable def v_laws_markContainerS : Env := { ti := look tab, Γ := fns [(31, [], e_laws_markOpS), (33, [], e_laws_markEntryS), (48, [], e_laws_markCaptureS)], loop := fun b => match b with | 0 => some [.slot 1 (.int .i64), .slot 5 (.int .i64), .vec 0 101 y101 true] | _ => none, cut := fun _ => none, deep := fun _ => false }
theorem c_laws_markContainerS : Contract Try.prog 140 e_laws_markContainerS.sig e_laws_markContainerS.F :=
  den_is (E := v_laws_markContainerS) ⟨tab_ti, tab_eq⟩ (fns_cons c_laws_markOpS (fns_cons c_laws_markEntryS (fns_cons c_laws_markCaptureS (fns_nil _)))) mixed Try.func140 (by kernel_rfl) (by kernel_rfl) (fun x => by kernel_rfl)

def s_laws_markFoundS : Sig := { params := [.io 192 y192, .val false y3], res := [.val false y3] }
noncomputable def e_laws_markFoundS : Entry := ⟨s_laws_markFoundS, fun a => D.laws_markFoundS a.1 a.2⟩
noncomputable def v_laws_markFoundS : Env := { ti := look tab, Γ := fns [], loop := fun b => match b with | 0 => some [.slot 1 (.int .i64), .slot 5 (.int .i64), .vec 0 192 y192 true] | _ => none, cut := fun _ => none, deep := fun _ => false }
theorem c_laws_markFoundS : Contract Try.prog 65 e_laws_markFoundS.sig e_laws_markFoundS.F :=
  den_is (E := v_laws_markFoundS) ⟨tab_ti, tab_eq⟩ (fns_nil _) mixed Try.func65 (by kernel_rfl) (by kernel_rfl) (fun x => by kernel_rfl)

def s_laws_markDisk : Sig := { params := [.io 101 y101, .io 192 y192, .io 101 y101, .val false y3], res := [.val false y3], groups := [some 3, none] }
noncomputable def e_laws_markDisk : Entry := ⟨s_laws_markDisk, fun a => D.laws_markDisk a.1 a.2.1 a.2.2.1 a.2.2.2⟩
noncomputable def v_laws_markDisk : Env := { ti := look tab, Γ := fns [(140, [], e_laws_markContainerS), (65, [], e_laws_markFoundS)], loop := fun _ => none, cut := fun _ => none, deep := fun _ => false }
theorem c_laws_markDisk : Contract Try.prog 64 e_laws_markDisk.sig e_laws_markDisk.F :=
  den_is (E := v_laws_markDisk) ⟨tab_ti, tab_eq⟩ (fns_cons c_laws_markContainerS (fns_cons c_laws_markFoundS (fns_nil _))) mixed Try.func64 (by kernel_rfl) (by kernel_rfl) (fun x => by kernel_rfl)

def s_laws_heldFoundS : Sig := { params := [.val false y87, .val false y3], res := [.val false y3] }
noncomputable def e_laws_heldFoundS : Entry := ⟨s_laws_heldFoundS, fun a => D.laws_heldFoundS a.1 a.2⟩
noncomputable def v_laws_heldFoundS : Env := { ti := look tab, Γ := fns [], loop := fun b => match b with | 0 => some [.slot 1 (.int .i64), .slot 5 (.int .i64)] | _ => none, cut := fun _ => none, deep := fun _ => false }
theorem c_laws_heldFoundS : Contract Try.prog 66 e_laws_heldFoundS.sig e_laws_heldFoundS.F :=
  den_is (E := v_laws_heldFoundS) ⟨tab_ti, tab_eq⟩ (fns_nil _) mixed Try.func66 (by kernel_rfl) (by kernel_rfl) (fun x => by kernel_rfl)

def s_laws_FnExactLookUp : Sig := { params := [.val true y83, .val true y85], res := [.val false y4] }
noncomputable def e_laws_FnExactLookUp : Entry := ⟨s_laws_FnExactLookUp, fun a => D.laws_FnExactLookUp a.1 a.2⟩
noncomputable def v_laws_FnExactLookUp : Env := { ti := look tab, Γ := fns [(57, [], e_laws_szDisk), (59, [], e_laws_toDisk), (60, [], e_laws_toAddress), (58, [], e_spec_LookUp), (61, [], e_impl_LookUp), (62, [], e_laws_eqFoundS), (63, [], e_laws_eqDisk), (64, [], e_laws_markDisk), (65, [], e_laws_markFoundS), (66, [], e_laws_heldFoundS)], loop := fun _ => none, cut := fun _ => none, deep := fun _ => false }
theorem c_laws_FnExactLookUp : Contract Try.prog 8 e_laws_FnExactLookUp.sig e_laws_FnExactLookUp.F :=
  den_is (E := v_laws_FnExactLookUp) ⟨tab_ti, tab_eq⟩ (fns_cons c_laws_szDisk (fns_cons c_laws_toDisk (fns_cons c_laws_toAddress (fns_cons c_spec_LookUp (fns_cons c_impl_LookUp (fns_cons c_laws_eqFoundS (fns_cons c_laws_eqDisk (fns_cons c_laws_markDisk (fns_cons c_laws_markFoundS (fns_cons c_laws_heldFoundS (fns_nil _))))))))))) mixed Try.func8 (by kernel_rfl) (by kernel_rfl) (fun x => by kernel_rfl)

theorem law_true (a : Tup (s_laws_FnExactLookUp.params.map PTy.den)) (hok : argsOk Try.prog s_laws_FnExactLookUp.params a) : D.laws_FnExactLookUp a.1 a.2 = some true := D.FnExactLookUp_true a.1 a.2 (Ty.ok_bd (P := Try.prog) (t := y83) (by kernel_rfl) hok.1) (Ty.ok_bd (P := Try.prog) (t := y85) (by kernel_rfl) hok.2.1)
theorem lifted (os : Os) (started : os.Started) (H : Type) (enc : TypeId × Value → H) :
    ReturnsInHanded {} Try.checked os 8 .any (Rows.fnExactLookUpSpec.pre6 enc Try.prog Try.f8 Rows.fnExactLookUpRow.domain false) (Rows.fnExactLookUpSpec.post enc Try.prog Try.f8 false true false false) := by
  refine returnsInHanded_of_change_sized (C := Try.checked) (by kernel_rfl) started (by kernel_rfl) Try.func8
    (ChangeSpec.witness6 (enc := enc) (C := Try.checked) false ⟨#[], #[.agg #[.slice none 0 0, .slice none 0 0, .slice none 0 0], .agg #[.int .i64 0, .int .i64 0, .int .i64 0]], []⟩ 8 (by kernel_rfl) (by kernel_rfl) (by kernel_rfl) (by kernel_rfl)) ?_
  intro W base args ds gs before hval hW hcnd hsz _
  exact law_row (C := Try.checked) rfl c_laws_FnExactLookUp (N := 8) (by kernel_rfl) (tb := 4) (by kernel_rfl) (by kernel_rfl) (by kernel_rfl) (by kernel_rfl) rfl
    (fun ds h => by
      have h : ds.length = 2 := h
      match ds, h with
      | [d0, d1], _ => rfl)
    bulky_sizeOf (small := fun _ => True) (fun a ds hok _ _ => ⟨_, law_true a hok, rfl⟩) hval hW hsz trivial

theorem over : Rows.fnExactLookUpRow.holds Try.pinned (OpenSpec.ofChange Rows.fnExactLookUpSpec) :=
  OpenClaim.holds_of_wide 8 Try.f8 rfl rfl rfl rfl rfl rfl rfl ⟨rfl, rfl, rfl, rfl, rfl⟩ rfl rfl rfl rfl rfl (by kernel_rfl) Try.func8 (by kernel_rfl)
    (of_decide_eq_true (by kernel_rfl)) (by unfold Func.isWrapper; first | (rw [if_pos (by decide +kernel)]; kernel_rfl) | (rw [if_neg (by decide +kernel)]; exact ⟨rfl, rfl⟩))
    (fun os started H enc _ => lifted os started H enc)
end Go.Proofs.Ythmpjemfgejccaa.SxFnExactLookUp
namespace Go.Proofs.Ythmpjemfgejccaa
theorem fnExactLookUp_holds : Rows.FnExactLookUpSaid := SxFnExactLookUp.over
end Go.Proofs.Ythmpjemfgejccaa
