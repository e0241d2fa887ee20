/- FnExactIsContainer returns true for every input, and each input reads as it did. No condition. -/
import Derived.Test.YtgniaohdiabgoaaRows
import Derived.Test.YtgniaohdiabgoaaPuFnExactIsContainer
import Derived.WalkKit
import Derived.ProofKit
import Derived.ShutString
import Derived.SizedLaws
set_option linter.unusedVariables false
set_option maxRecDepth 100000
set_option maxHeartbeats 4000000
namespace Go.Proofs.Ytgniaohdiabgoaa.SxFnExactIsContainer
open Go Go.Sh Go.RowKit
def y3 : Ty := .int .i64
def y4 : Ty := .bool
def y128 : Ty := .pair y3 (.pair y3 (.pair y3 y3))
def y22 : Ty := .slice 128 y128
def y115 : Ty := .pair y3 (.pair y3 y3)
def y134 : Ty := .pair y3 (.pair y115 y3)
def y23 : Ty := .slice 134 y134
def y73 : Ty := .slice 3 y3
def y117 : Ty := .pair y3 (.pair y73 y115)
def y119 : Ty := .pair y115 (.pair y3 y117)
def y24 : Ty := .slice 119 y119
def y26 : Ty := .pair y22 (.pair y23 (.pair y24 y3))
def y126 : Ty := .pair y3 (.pair y3 (.pair y3 y3))
def y29 : Ty := .slice 126 y126
def y129 : Ty := .pair y3 (.pair y3 y3)
def y131 : Ty := .pair y3 (.pair y129 y3)
def y30 : Ty := .slice 131 y131
def y136 : Ty := .pair y3 (.pair y73 y129)
def y138 : Ty := .pair y129 (.pair y3 y136)
def y31 : Ty := .slice 138 y138
def y33 : Ty := .pair y29 (.pair y30 (.pair y31 y3))
def tab : List (TypeId × TI) := [(3, { size := 1, bytes := 8, agg := false, ty := some y3 }),
  (4, { size := 1, bytes := 1, agg := false, ty := some y4 }),
  (128, { size := 4, bytes := 32, agg := true, ty := some y128, fields := [(0, 3), (1, 3), (2, 3), (3, 3)] }),
  (22, { size := 1, bytes := 24, agg := false, ty := some y22, elem := some 128 }),
  (115, { size := 3, bytes := 24, agg := true, ty := some y115, fields := [(0, 3), (1, 3), (2, 3)] }),
  (134, { size := 5, bytes := 40, agg := true, ty := some y134, fields := [(0, 3), (1, 115), (4, 3)] }),
  (23, { size := 1, bytes := 24, agg := false, ty := some y23, elem := some 134 }),
  (73, { size := 1, bytes := 24, agg := false, ty := some y73, elem := some 3 }),
  (117, { size := 5, bytes := 56, agg := true, ty := some y117, fields := [(0, 3), (1, 73), (2, 115)] }),
  (119, { size := 9, bytes := 88, agg := true, ty := some y119, fields := [(0, 115), (3, 3), (4, 117)] }),
  (24, { size := 1, bytes := 24, agg := false, ty := some y24, elem := some 119 }),
  (26, { size := 4, bytes := 80, agg := true, ty := some y26, fields := [(0, 22), (1, 23), (2, 24), (3, 3)] }),
  (126, { size := 4, bytes := 32, agg := true, ty := some y126, fields := [(0, 3), (1, 3), (2, 3), (3, 3)] }),
  (29, { size := 1, bytes := 24, agg := false, ty := some y29, elem := some 126 }),
  (129, { size := 3, bytes := 24, agg := true, ty := some y129, fields := [(0, 3), (1, 3), (2, 3)], eq := true }),
  (131, { size := 5, bytes := 40, agg := true, ty := some y131, fields := [(0, 3), (1, 129), (4, 3)] }),
  (30, { size := 1, bytes := 24, agg := false, ty := some y30, elem := some 131 }),
  (136, { size := 5, bytes := 56, agg := true, ty := some y136, fields := [(0, 3), (1, 73), (2, 129)] }),
  (138, { size := 9, bytes := 88, agg := true, ty := some y138, fields := [(0, 129), (3, 3), (4, 136)] }),
  (31, { size := 1, bytes := 24, agg := false, ty := some y31, elem := some 138 }),
  (33, { size := 4, bytes := 80, agg := true, ty := some y33, fields := [(0, 29), (1, 30), (2, 31), (3, 3)] })]
def look : List (TypeId × TI) → TypeId → Option TI
  | [], _ => none
  | (k, i) :: r, t => if Nat.beq t k = true then some i else look r t
theorem look_ok {P : Program} : ∀ {l : List (TypeId × TI)}, (l.all fun p => tiOk P p.1 p.2) = true → ∀ t i, look l t = some i → tiOk P t i = true
  | [], _, t, i, h => by simp [look] at h
  | (k, j) :: r, h0, t, i, h => by
    simp only [List.all_cons, Bool.and_eq_true] at h0
    simp only [look] at h
    split at h
    · rename_i hk
      simp only [Option.some.injEq] at h
      have := Nat.eq_of_beq_eq_true hk
      subst this; subst h; exact h0.1
    · exact look_ok h0.2 t i h
theorem look_eq {P : Program} : ∀ {l : List (TypeId × TI)}, (l.all fun p => !p.2.eq || eqTop P p.1 p.2.ty) = true → ∀ t i, look l t = some i → i.eq = true → ∀ ty, i.ty = some ty → EqLaw P t ty.zero
  | [], _, t, i, h => by simp [look] at h
  | (k, j) :: r, h0, t, i, h => by
    simp only [List.all_cons, Bool.and_eq_true, Bool.or_eq_true, Bool.not_eq_true'] at h0
    simp only [look] at h
    split at h
    · rename_i hk
      simp only [Option.some.injEq] at h
      have := Nat.eq_of_beq_eq_true hk
      subst this; subst h
      intro he
      exact eqLaw_of (h0.1.resolve_left (by simp [he]))
    · exact look_eq h0.2 t i h
def same : List Nat → List Nat → Bool
  | [], [] => true
  | a :: x, b :: y => Nat.beq a b && same x y
  | _, _ => false
theorem same_eq : ∀ {x y : List Nat}, same x y = true → x = y
  | [], [], _ => rfl
  | a :: x, b :: y, h => by
    simp only [same, Bool.and_eq_true] at h
    rw [Nat.eq_of_beq_eq_true h.1, same_eq h.2]
  | [], _ :: _, h => by simp [same] at h
  | _ :: _, [], h => by simp [same] at h
def fns : List (FuncId × List FuncId × Entry) → FuncId → List FuncId → Option Entry
  | [], _, _ => none
  | (k, c, e) :: r, f, fs => if (Nat.beq f k && same fs c) = true then some e else fns r f fs
theorem fns_nil (P : Program) : ∀ f fs en, fns [] f fs = some en → Contract P f en.sig en.F := fun f fs en h => by simp [fns] at h
theorem fns_cons {P : Program} {k : FuncId} {c : List FuncId} {e : Entry} {r : List (FuncId × List FuncId × Entry)} (hk : Contract P k e.sig e.F) (hr : ∀ f fs en, fns r f fs = some en → Contract P f en.sig en.F) : ∀ f fs en, fns ((k, c, e) :: r) f fs = some en → Contract P f en.sig en.F := fun f fs en h => by
  simp only [fns] at h
  split at h
  · rename_i hf
    simp only [Bool.and_eq_true] at hf
    simp only [Option.some.injEq] at h
    have := Nat.eq_of_beq_eq_true hf.1
    subst this; subst h; exact hk
  · exact hr f fs en h

theorem tab_ti : ∀ t i, look tab t = some i → tiOk Try.prog t i = true := look_ok (by kernel_rfl)
theorem tab_eq : ∀ t i, look tab t = some i → i.eq = true → ∀ ty, i.ty = some ty → EqLaw Try.prog t ty.zero := look_eq (by kernel_rfl)
theorem mixed : Try.prog.follows .mixedOrders = true := by kernel_rfl
def s_laws_szOpS : Sig := { params := [.val false y22, .val false y3], res := [.val false y3] }
noncomputable def e_laws_szOpS : Entry := ⟨s_laws_szOpS, fun a => D.laws_szOpS a.1 a.2⟩
noncomputable def v_laws_szOpS : Env := { ti := look tab, Γ := fns [], loop := fun _ => none, cut := fun _ => none, deep := fun _ => false }
theorem c_laws_szOpS : Contract Try.prog 18 e_laws_szOpS.sig e_laws_szOpS.F :=
  den_is (E := v_laws_szOpS) ⟨tab_ti, tab_eq⟩ (fns_nil _) mixed Try.func18 (by kernel_rfl) (by kernel_rfl) (fun x => by kernel_rfl)

def s_laws_szEntryS : Sig := { params := [.val false y23, .val false y3], res := [.val false y3] }
noncomputable def e_laws_szEntryS : Entry := ⟨s_laws_szEntryS, fun a => D.laws_szEntryS a.1 a.2⟩
noncomputable def v_laws_szEntryS : Env := { ti := look tab, Γ := fns [], loop := fun _ => none, cut := fun _ => none, deep := fun _ => false }
theorem c_laws_szEntryS : Contract Try.prog 19 e_laws_szEntryS.sig e_laws_szEntryS.F :=
  den_is (E := v_laws_szEntryS) ⟨tab_ti, tab_eq⟩ (fns_nil _) mixed Try.func19 (by kernel_rfl) (by kernel_rfl) (fun x => by kernel_rfl)

def s_laws_szIntS : Sig := { params := [.val false y73, .val false y3], res := [.val false y3] }
noncomputable def e_laws_szIntS : Entry := ⟨s_laws_szIntS, fun a => D.laws_szIntS a.1 a.2⟩
noncomputable def v_laws_szIntS : Env := { ti := look tab, Γ := fns [], loop := fun _ => none, cut := fun _ => none, deep := fun _ => false }
theorem c_laws_szIntS : Contract Try.prog 201 e_laws_szIntS.sig e_laws_szIntS.F :=
  den_is (E := v_laws_szIntS) ⟨tab_ti, tab_eq⟩ (fns_nil _) mixed Try.func201 (by kernel_rfl) (by kernel_rfl) (fun x => by kernel_rfl)

def s_laws_szResource : Sig := { params := [.val true y117, .val false y3], res := [.val false y3] }
noncomputable def e_laws_szResource : Entry := ⟨s_laws_szResource, fun a => D.laws_szResource a.1 a.2⟩
noncomputable def v_laws_szResource : Env := { ti := look tab, Γ := fns [(201, [], e_laws_szIntS)], loop := fun _ => none, cut := fun _ => none, deep := fun _ => false }
theorem c_laws_szResource : Contract Try.prog 165 e_laws_szResource.sig e_laws_szResource.F :=
  den_is (E := v_laws_szResource) ⟨tab_ti, tab_eq⟩ (fns_cons c_laws_szIntS (fns_nil _)) mixed Try.func165 (by kernel_rfl) (by kernel_rfl) (fun x => by kernel_rfl)

def s_laws_szCapture : Sig := { params := [.val true y119, .val false y3], res := [.val false y3] }
noncomputable def e_laws_szCapture : Entry := ⟨s_laws_szCapture, fun a => D.laws_szCapture a.1 a.2⟩
noncomputable def v_laws_szCapture : Env := { ti := look tab, Γ := fns [(165, [], e_laws_szResource)], loop := fun _ => none, cut := fun _ => none, deep := fun _ => false }
theorem c_laws_szCapture : Contract Try.prog 84 e_laws_szCapture.sig e_laws_szCapture.F :=
  den_is (E := v_laws_szCapture) ⟨tab_ti, tab_eq⟩ (fns_cons c_laws_szResource (fns_nil _)) mixed Try.func84 (by kernel_rfl) (by kernel_rfl) (fun x => by kernel_rfl)

def s_laws_szCaptureS : Sig := { params := [.val false y24, .val false y3], res := [.val false y3] }
noncomputable def e_laws_szCaptureS : Entry := ⟨s_laws_szCaptureS, fun a => D.laws_szCaptureS a.1 a.2⟩
noncomputable def v_laws_szCaptureS : Env := { ti := look tab, Γ := fns [(84, [], e_laws_szCapture)], loop := fun b => match b with | 0 => some [.slot 1 (.int .i64), .slot 5 (.int .i64)] | _ => none, cut := fun _ => none, deep := fun _ => false }
theorem c_laws_szCaptureS : Contract Try.prog 20 e_laws_szCaptureS.sig e_laws_szCaptureS.F :=
  den_is (E := v_laws_szCaptureS) ⟨tab_ti, tab_eq⟩ (fns_cons c_laws_szCapture (fns_nil _)) mixed Try.func20 (by kernel_rfl) (by kernel_rfl) (fun x => by kernel_rfl)

def s_laws_szContainer : Sig := { params := [.val true y26, .val false y3], res := [.val false y3] }
noncomputable def e_laws_szContainer : Entry := ⟨s_laws_szContainer, fun a => D.laws_szContainer a.1 a.2⟩
noncomputable def v_laws_szContainer : Env := { ti := look tab, Γ := fns [(18, [], e_laws_szOpS), (19, [], e_laws_szEntryS), (20, [], e_laws_szCaptureS)], loop := fun _ => none, cut := fun _ => none, deep := fun _ => false }
theorem c_laws_szContainer : Contract Try.prog 13 e_laws_szContainer.sig e_laws_szContainer.F :=
  den_is (E := v_laws_szContainer) ⟨tab_ti, tab_eq⟩ (fns_cons c_laws_szOpS (fns_cons c_laws_szEntryS (fns_cons c_laws_szCaptureS (fns_nil _)))) mixed Try.func13 (by kernel_rfl) (by kernel_rfl) (fun x => by kernel_rfl)

def s_laws_toOp : Sig := { params := [.val true y128], res := [.val true y126] }
noncomputable def e_laws_toOp : Entry := ⟨s_laws_toOp, fun a => D.laws_toOp a⟩
noncomputable def v_laws_toOp : Env := { ti := look tab, Γ := fns [], loop := fun _ => none, cut := fun _ => none, deep := fun _ => false }
theorem c_laws_toOp : Contract Try.prog 91 e_laws_toOp.sig e_laws_toOp.F :=
  den_is (E := v_laws_toOp) ⟨tab_ti, tab_eq⟩ (fns_nil _) mixed Try.func91 (by kernel_rfl) (by kernel_rfl) (fun x => by kernel_rfl)

def s_laws_toOpS : Sig := { params := [.val false y22], res := [.row 126 y126 false] }
noncomputable def e_laws_toOpS : Entry := ⟨s_laws_toOpS, fun a => D.laws_toOpS a⟩
noncomputable def v_laws_toOpS : Env := { ti := look tab, Γ := fns [(91, [], e_laws_toOp)], loop := fun b => match b with | 0 => some [.slot 4 (.int .i64), .vec 3 126 y126 false] | _ => none, cut := fun _ => none, deep := fun _ => false }
theorem c_laws_toOpS : Contract Try.prog 22 e_laws_toOpS.sig e_laws_toOpS.F :=
  den_is (E := v_laws_toOpS) ⟨tab_ti, tab_eq⟩ (fns_cons c_laws_toOp (fns_nil _)) mixed Try.func22 (by kernel_rfl) (by kernel_rfl) (fun x => by kernel_rfl)

def s_laws_toAddress : Sig := { params := [.val true y115], res := [.val true y129] }
noncomputable def e_laws_toAddress : Entry := ⟨s_laws_toAddress, fun a => D.laws_toAddress a⟩
noncomputable def v_laws_toAddress : Env := { ti := look tab, Γ := fns [], loop := fun _ => none, cut := fun _ => none, deep := fun _ => false }
theorem c_laws_toAddress : Contract Try.prog 110 e_laws_toAddress.sig e_laws_toAddress.F :=
  den_is (E := v_laws_toAddress) ⟨tab_ti, tab_eq⟩ (fns_nil _) mixed Try.func110 (by kernel_rfl) (by kernel_rfl) (fun x => by kernel_rfl)

def s_laws_toEntry : Sig := { params := [.val true y134], res := [.val true y131] }
noncomputable def e_laws_toEntry : Entry := ⟨s_laws_toEntry, fun a => D.laws_toEntry a⟩
noncomputable def v_laws_toEntry : Env := { ti := look tab, Γ := fns [(110, [], e_laws_toAddress)], loop := fun _ => none, cut := fun _ => none, deep := fun _ => false }
theorem c_laws_toEntry : Contract Try.prog 92 e_laws_toEntry.sig e_laws_toEntry.F :=
  den_is (E := v_laws_toEntry) ⟨tab_ti, tab_eq⟩ (fns_cons c_laws_toAddress (fns_nil _)) mixed Try.func92 (by kernel_rfl) (by kernel_rfl) (fun x => by kernel_rfl)

def s_laws_toEntryS : Sig := { params := [.val false y23], res := [.row 131 y131 false] }
noncomputable def e_laws_toEntryS : Entry := ⟨s_laws_toEntryS, fun a => D.laws_toEntryS a⟩
noncomputable def v_laws_toEntryS : Env := { ti := look tab, Γ := fns [(92, [], e_laws_toEntry)], loop := fun b => match b with | 0 => some [.slot 4 (.int .i64), .vec 3 131 y131 false] | _ => none, cut := fun _ => none, deep := fun _ => false }
theorem c_laws_toEntryS : Contract Try.prog 23 e_laws_toEntryS.sig e_laws_toEntryS.F :=
  den_is (E := v_laws_toEntryS) ⟨tab_ti, tab_eq⟩ (fns_cons c_laws_toEntry (fns_nil _)) mixed Try.func23 (by kernel_rfl) (by kernel_rfl) (fun x => by kernel_rfl)

def s_laws_toIntS : Sig := { params := [.val false y73], res := [.row 3 y3 false] }
noncomputable def e_laws_toIntS : Entry := ⟨s_laws_toIntS, fun a => D.laws_toIntS a⟩
noncomputable def v_laws_toIntS : Env := { ti := look tab, Γ := fns [], loop := fun b => match b with | 0 => some [.slot 4 (.int .i64), .vec 3 3 y3 false] | _ => none, cut := fun _ => none, deep := fun _ => false }
theorem c_laws_toIntS : Contract Try.prog 57 e_laws_toIntS.sig e_laws_toIntS.F :=
  den_is (E := v_laws_toIntS) ⟨tab_ti, tab_eq⟩ (fns_nil _) mixed Try.func57 (by kernel_rfl) (by kernel_rfl) (fun x => by kernel_rfl)

def s_laws_toResource : Sig := { params := [.val true y117], res := [.val false y3, .row 3 y3 false, .val false y3, .val false y3, .val false y3], rgroups := [some 5] }
noncomputable def e_laws_toResource : Entry := ⟨s_laws_toResource, fun a => D.laws_toResource a⟩
noncomputable def v_laws_toResource : Env := { ti := look tab, Γ := fns [(57, [], e_laws_toIntS), (110, [], e_laws_toAddress)], loop := fun _ => none, cut := fun _ => none, deep := fun _ => false }
theorem c_laws_toResource : Contract Try.prog 169 e_laws_toResource.sig e_laws_toResource.F :=
  den_is (E := v_laws_toResource) ⟨tab_ti, tab_eq⟩ (fns_cons c_laws_toIntS (fns_cons c_laws_toAddress (fns_nil _))) mixed Try.func169 (by kernel_rfl) (by kernel_rfl) (fun x => by kernel_rfl)

def s_laws_toCapture : Sig := { params := [.val true y119], res := [.val true y138] }
noncomputable def e_laws_toCapture : Entry := ⟨s_laws_toCapture, fun a => D.laws_toCapture a⟩
noncomputable def v_laws_toCapture : Env := { ti := look tab, Γ := fns [(110, [], e_laws_toAddress), (169, [], e_laws_toResource)], loop := fun _ => none, cut := fun _ => none, deep := fun _ => false }
theorem c_laws_toCapture : Contract Try.prog 93 e_laws_toCapture.sig e_laws_toCapture.F :=
  den_is (E := v_laws_toCapture) ⟨tab_ti, tab_eq⟩ (fns_cons c_laws_toAddress (fns_cons c_laws_toResource (fns_nil _))) mixed Try.func93 (by kernel_rfl) (by kernel_rfl) (fun x => by kernel_rfl)

def s_laws_toCaptureS : Sig := { params := [.val false y24], res := [.row 138 y138 false] }
noncomputable def e_laws_toCaptureS : Entry := ⟨s_laws_toCaptureS, fun a => D.laws_toCaptureS a⟩
noncomputable def v_laws_toCaptureS : Env := { ti := look tab, Γ := fns [(93, [], e_laws_toCapture)], loop := fun b => match b with | 0 => some [.slot 4 (.int .i64), .vec 3 138 y138 false] | _ => none, cut := fun _ => none, deep := fun _ => false }
theorem c_laws_toCaptureS : Contract Try.prog 24 e_laws_toCaptureS.sig e_laws_toCaptureS.F :=
  den_is (E := v_laws_toCaptureS) ⟨tab_ti, tab_eq⟩ (fns_cons c_laws_toCapture (fns_nil _)) mixed Try.func24 (by kernel_rfl) (by kernel_rfl) (fun x => by kernel_rfl)

def s_laws_toContainer : Sig := { params := [.val true y26], res := [.row 126 y126 false, .row 131 y131 false, .row 138 y138 false, .val false y3], rgroups := [some 4] }
noncomputable def e_laws_toContainer : Entry := ⟨s_laws_toContainer, fun a => D.laws_toContainer a⟩
noncomputable def v_laws_toContainer : Env := { ti := look tab, Γ := fns [(22, [], e_laws_toOpS), (23, [], e_laws_toEntryS), (24, [], e_laws_toCaptureS)], loop := fun _ => none, cut := fun _ => none, deep := fun _ => false }
theorem c_laws_toContainer : Contract Try.prog 15 e_laws_toContainer.sig e_laws_toContainer.F :=
  den_is (E := v_laws_toContainer) ⟨tab_ti, tab_eq⟩ (fns_cons c_laws_toOpS (fns_cons c_laws_toEntryS (fns_cons c_laws_toCaptureS (fns_nil _)))) mixed Try.func15 (by kernel_rfl) (by kernel_rfl) (fun x => by kernel_rfl)

def s_spec_l1In : Sig := { params := [.val false y3, .val false y3, .val false y3], res := [.val false y4] }
noncomputable def e_spec_l1In : Entry := ⟨s_spec_l1In, fun a => D.spec_l1In a.1 a.2.1 a.2.2⟩
noncomputable def v_spec_l1In : Env := { ti := look tab, Γ := fns [], loop := fun _ => none, cut := fun _ => none, deep := fun _ => false }
theorem c_spec_l1In : Contract Try.prog 107 e_spec_l1In.sig e_spec_l1In.F :=
  den_is (E := v_spec_l1In) ⟨tab_ti, tab_eq⟩ (fns_nil _) mixed Try.func107 (by kernel_rfl) (by kernel_rfl) (fun x => by kernel_rfl)

def s_spec_l10Ok : Sig := { params := [.val true y126], res := [.val false y4] }
noncomputable def e_spec_l10Ok : Entry := ⟨s_spec_l10Ok, fun a => D.spec_l10Ok a⟩
noncomputable def v_spec_l10Ok : Env := { ti := look tab, Γ := fns [(107, [], e_spec_l1In)], loop := fun _ => none, cut := fun _ => none, deep := fun _ => false }
theorem c_spec_l10Ok : Contract Try.prog 151 e_spec_l10Ok.sig e_spec_l10Ok.F :=
  den_is (E := v_spec_l10Ok) ⟨tab_ti, tab_eq⟩ (fns_cons c_spec_l1In (fns_nil _)) mixed Try.func151 (by kernel_rfl) (by kernel_rfl) (fun x => by kernel_rfl)

def s_spec_IsScript : Sig := { params := [.val false y29], res := [.val false y4] }
noncomputable def e_spec_IsScript : Entry := ⟨s_spec_IsScript, fun a => D.spec_IsScript a⟩
noncomputable def v_spec_IsScript : Env := { ti := look tab, Γ := fns [(151, [], e_spec_l10Ok)], loop := fun b => match b with | 0 => some [.slot 3 (.int .i64)] | _ => none, cut := fun _ => none, deep := fun _ => false }
theorem c_spec_IsScript : Contract Try.prog 78 e_spec_IsScript.sig e_spec_IsScript.F :=
  den_is (E := v_spec_IsScript) ⟨tab_ti, tab_eq⟩ (fns_cons c_spec_l10Ok (fns_nil _)) mixed Try.func78 (by kernel_rfl) (by kernel_rfl) (fun x => by kernel_rfl)

def s_spec_Asks : Sig := { params := [.val false y3], res := [.val false y4] }
noncomputable def e_spec_Asks : Entry := ⟨s_spec_Asks, fun a => D.spec_Asks a⟩
noncomputable def v_spec_Asks : Env := { ti := look tab, Γ := fns [(107, [], e_spec_l1In)], loop := fun _ => none, cut := fun _ => none, deep := fun _ => false }
theorem c_spec_Asks : Contract Try.prog 152 e_spec_Asks.sig e_spec_Asks.F :=
  den_is (E := v_spec_Asks) ⟨tab_ti, tab_eq⟩ (fns_cons c_spec_l1In (fns_nil _)) mixed Try.func152 (by kernel_rfl) (by kernel_rfl) (fun x => by kernel_rfl)

def s_spec_IsAddress : Sig := { params := [.val true y129], res := [.val false y4] }
noncomputable def e_spec_IsAddress : Entry := ⟨s_spec_IsAddress, fun a => D.spec_IsAddress a⟩
noncomputable def v_spec_IsAddress : Env := { ti := look tab, Γ := fns [(107, [], e_spec_l1In)], loop := fun _ => none, cut := fun _ => none, deep := fun _ => false }
theorem c_spec_IsAddress : Contract Try.prog 153 e_spec_IsAddress.sig e_spec_IsAddress.F :=
  den_is (E := v_spec_IsAddress) ⟨tab_ti, tab_eq⟩ (fns_cons c_spec_l1In (fns_nil _)) mixed Try.func153 (by kernel_rfl) (by kernel_rfl) (fun x => by kernel_rfl)

def s_spec_AreEntries : Sig := { params := [.val false y30], res := [.val false y4] }
noncomputable def e_spec_AreEntries : Entry := ⟨s_spec_AreEntries, fun a => D.spec_AreEntries a⟩
noncomputable def v_spec_AreEntries : Env := { ti := look tab, Γ := fns [(152, [], e_spec_Asks), (107, [], e_spec_l1In), (153, [], e_spec_IsAddress)], loop := fun b => match b with | 0 => some [.slot 3 (.int .i64)] | _ => none, cut := fun _ => none, deep := fun _ => false }
theorem c_spec_AreEntries : Contract Try.prog 79 e_spec_AreEntries.sig e_spec_AreEntries.F :=
  den_is (E := v_spec_AreEntries) ⟨tab_ti, tab_eq⟩ (fns_cons c_spec_Asks (fns_cons c_spec_l1In (fns_cons c_spec_IsAddress (fns_nil _)))) mixed Try.func79 (by kernel_rfl) (by kernel_rfl) (fun x => by kernel_rfl)

def s_spec_l5Bytes : Sig := { params := [.val false y73], res := [.val false y4] }
noncomputable def e_spec_l5Bytes : Entry := ⟨s_spec_l5Bytes, fun a => D.spec_l5Bytes a⟩
noncomputable def v_spec_l5Bytes : Env := { ti := look tab, Γ := fns [(107, [], e_spec_l1In)], loop := fun b => match b with | 0 => some [.slot 3 (.int .i64)] | _ => none, cut := fun _ => none, deep := fun _ => false }
theorem c_spec_l5Bytes : Contract Try.prog 196 e_spec_l5Bytes.sig e_spec_l5Bytes.F :=
  den_is (E := v_spec_l5Bytes) ⟨tab_ti, tab_eq⟩ (fns_cons c_spec_l1In (fns_nil _)) mixed Try.func196 (by kernel_rfl) (by kernel_rfl) (fun x => by kernel_rfl)

def s_spec_IsResource : Sig := { params := [.val true y136], res := [.val false y4] }
noncomputable def e_spec_IsResource : Entry := ⟨s_spec_IsResource, fun a => D.spec_IsResource a⟩
noncomputable def v_spec_IsResource : Env := { ti := look tab, Γ := fns [(107, [], e_spec_l1In), (196, [], e_spec_l5Bytes), (153, [], e_spec_IsAddress)], loop := fun _ => none, cut := fun _ => none, deep := fun _ => false }
theorem c_spec_IsResource : Contract Try.prog 154 e_spec_IsResource.sig e_spec_IsResource.F :=
  den_is (E := v_spec_IsResource) ⟨tab_ti, tab_eq⟩ (fns_cons c_spec_l1In (fns_cons c_spec_l5Bytes (fns_cons c_spec_IsAddress (fns_nil _)))) mixed Try.func154 (by kernel_rfl) (by kernel_rfl) (fun x => by kernel_rfl)

def s_spec_AreCaptures : Sig := { params := [.val false y31], res := [.val false y4] }
noncomputable def e_spec_AreCaptures : Entry := ⟨s_spec_AreCaptures, fun a => D.spec_AreCaptures a⟩
noncomputable def v_spec_AreCaptures : Env := { ti := look tab, Γ := fns [(153, [], e_spec_IsAddress), (107, [], e_spec_l1In), (154, [], e_spec_IsResource)], loop := fun b => match b with | 0 => some [.slot 3 (.int .i64)] | _ => none, cut := fun _ => none, deep := fun _ => false }
theorem c_spec_AreCaptures : Contract Try.prog 80 e_spec_AreCaptures.sig e_spec_AreCaptures.F :=
  den_is (E := v_spec_AreCaptures) ⟨tab_ti, tab_eq⟩ (fns_cons c_spec_IsAddress (fns_cons c_spec_l1In (fns_cons c_spec_IsResource (fns_nil _)))) mixed Try.func80 (by kernel_rfl) (by kernel_rfl) (fun x => by kernel_rfl)

def s_spec_l5Copy : Sig := { params := [.val true y136], res := [.val false y3, .row 3 y3 false, .val false y3, .val false y3, .val false y3], rgroups := [some 5] }
noncomputable def e_spec_l5Copy : Entry := ⟨s_spec_l5Copy, fun a => D.spec_l5Copy a⟩
noncomputable def v_spec_l5Copy : Env := { ti := look tab, Γ := fns [], loop := fun _ => none, cut := fun _ => none, deep := fun _ => false }
theorem c_spec_l5Copy : Contract Try.prog 166 e_spec_l5Copy.sig e_spec_l5Copy.F :=
  den_is (E := v_spec_l5Copy) ⟨tab_ti, tab_eq⟩ (fns_nil _) mixed Try.func166 (by kernel_rfl) (by kernel_rfl) (fun x => by kernel_rfl)

def s_spec_l15Copy : Sig := { params := [.val false y31], res := [.row 138 y138 false] }
noncomputable def e_spec_l15Copy : Entry := ⟨s_spec_l15Copy, fun a => D.spec_l15Copy a⟩
noncomputable def v_spec_l15Copy : Env := { ti := look tab, Γ := fns [(166, [], e_spec_l5Copy)], loop := fun b => match b with | 0 => some [.slot 3 (.own 138 y138 false), .slot 4 (.int .i64)] | _ => none, cut := fun _ => none, deep := fun _ => false }
theorem c_spec_l15Copy : Contract Try.prog 85 e_spec_l15Copy.sig e_spec_l15Copy.F :=
  den_is (E := v_spec_l15Copy) ⟨tab_ti, tab_eq⟩ (fns_cons c_spec_l5Copy (fns_nil _)) mixed Try.func85 (by kernel_rfl) (by kernel_rfl) (fun x => by kernel_rfl)

def s_spec_ScriptInts : Sig := { params := [.val false y29], res := [.row 3 y3 false] }
noncomputable def e_spec_ScriptInts : Entry := ⟨s_spec_ScriptInts, fun a => D.spec_ScriptInts a⟩
noncomputable def v_spec_ScriptInts : Env := { ti := look tab, Γ := fns [], loop := fun b => match b with | 0 => some [.slot 3 (.own 3 y3 false), .slot 4 (.int .i64)] | _ => none, cut := fun _ => none, deep := fun _ => false }
theorem c_spec_ScriptInts : Contract Try.prog 88 e_spec_ScriptInts.sig e_spec_ScriptInts.F :=
  den_is (E := v_spec_ScriptInts) ⟨tab_ti, tab_eq⟩ (fns_nil _) mixed Try.func88 (by kernel_rfl) (by kernel_rfl) (fun x => by kernel_rfl)

def s_spec_Mod : Sig := { params := [.val false y3, .val false y3], res := [.val false y3] }
noncomputable def e_spec_Mod : Entry := ⟨s_spec_Mod, fun a => D.spec_Mod a.1 a.2⟩
noncomputable def v_spec_Mod : Env := { ti := look tab, Γ := fns [(107, [], e_spec_l1In)], loop := fun _ => none, cut := fun _ => none, deep := fun _ => false }
theorem c_spec_Mod : Contract Try.prog 167 e_spec_Mod.sig e_spec_Mod.F :=
  den_is (E := v_spec_Mod) ⟨tab_ti, tab_eq⟩ (fns_cons c_spec_l1In (fns_nil _)) mixed Try.func167 (by kernel_rfl) (by kernel_rfl) (fun x => by kernel_rfl)

def s_spec_Hash : Sig := { params := [.val false y73], res := [.val false y3] }
noncomputable def e_spec_Hash : Entry := ⟨s_spec_Hash, fun a => D.spec_Hash a⟩
noncomputable def v_spec_Hash : Env := { ti := look tab, Γ := fns [(167, [], e_spec_Mod)], loop := fun b => match b with | 0 => some [.slot 3 (.int .i64), .slot 4 (.int .i64)] | _ => none, cut := fun _ => none, deep := fun _ => false }
theorem c_spec_Hash : Contract Try.prog 87 e_spec_Hash.sig e_spec_Hash.F :=
  den_is (E := v_spec_Hash) ⟨tab_ti, tab_eq⟩ (fns_cons c_spec_Mod (fns_nil _)) mixed Try.func87 (by kernel_rfl) (by kernel_rfl) (fun x => by kernel_rfl)

def s_spec_l30Entries : Sig := { params := [.val false y30], res := [.row 3 y3 false] }
noncomputable def e_spec_l30Entries : Entry := ⟨s_spec_l30Entries, fun a => D.spec_l30Entries a⟩
noncomputable def v_spec_l30Entries : Env := { ti := look tab, Γ := fns [], loop := fun b => match b with | 0 => some [.slot 3 (.own 3 y3 false), .slot 4 (.int .i64)] | _ => none, cut := fun _ => none, deep := fun _ => false }
theorem c_spec_l30Entries : Contract Try.prog 89 e_spec_l30Entries.sig e_spec_l30Entries.F :=
  den_is (E := v_spec_l30Entries) ⟨tab_ti, tab_eq⟩ (fns_nil _) mixed Try.func89 (by kernel_rfl) (by kernel_rfl) (fun x => by kernel_rfl)

def s_spec_ResourceInts : Sig := { params := [.val true y136], res := [.row 3 y3 false] }
noncomputable def e_spec_ResourceInts : Entry := ⟨s_spec_ResourceInts, fun a => D.spec_ResourceInts a⟩
noncomputable def v_spec_ResourceInts : Env := { ti := look tab, Γ := fns [], loop := fun _ => none, cut := fun _ => none, deep := fun _ => false }
theorem c_spec_ResourceInts : Contract Try.prog 202 e_spec_ResourceInts.sig e_spec_ResourceInts.F :=
  den_is (E := v_spec_ResourceInts) ⟨tab_ti, tab_eq⟩ (fns_nil _) mixed Try.func202 (by kernel_rfl) (by kernel_rfl) (fun x => by kernel_rfl)

def s_spec_CaptureInts : Sig := { params := [.val true y138], res := [.row 3 y3 false] }
noncomputable def e_spec_CaptureInts : Entry := ⟨s_spec_CaptureInts, fun a => D.spec_CaptureInts a⟩
noncomputable def v_spec_CaptureInts : Env := { ti := look tab, Γ := fns [(202, [], e_spec_ResourceInts)], loop := fun _ => none, cut := fun _ => none, deep := fun _ => false }
theorem c_spec_CaptureInts : Contract Try.prog 168 e_spec_CaptureInts.sig e_spec_CaptureInts.F :=
  den_is (E := v_spec_CaptureInts) ⟨tab_ti, tab_eq⟩ (fns_cons c_spec_ResourceInts (fns_nil _)) mixed Try.func168 (by kernel_rfl) (by kernel_rfl) (fun x => by kernel_rfl)

def s_spec_l30Captures : Sig := { params := [.val false y31], res := [.row 3 y3 false] }
noncomputable def e_spec_l30Captures : Entry := ⟨s_spec_l30Captures, fun a => D.spec_l30Captures a⟩
noncomputable def v_spec_l30Captures : Env := { ti := look tab, Γ := fns [(168, [], e_spec_CaptureInts), (87, [], e_spec_Hash)], loop := fun b => match b with | 0 => some [.slot 3 (.own 3 y3 false), .slot 4 (.int .i64)] | _ => none, cut := fun _ => none, deep := fun _ => false }
theorem c_spec_l30Captures : Contract Try.prog 90 e_spec_l30Captures.sig e_spec_l30Captures.F :=
  den_is (E := v_spec_l30Captures) ⟨tab_ti, tab_eq⟩ (fns_cons c_spec_CaptureInts (fns_cons c_spec_Hash (fns_nil _))) mixed Try.func90 (by kernel_rfl) (by kernel_rfl) (fun x => by kernel_rfl)

def s_spec_RootOf : Sig := { params := [.val false y73], res := [.val false y3] }
noncomputable def e_spec_RootOf : Entry := ⟨s_spec_RootOf, fun a => D.spec_RootOf a⟩
noncomputable def v_spec_RootOf (n : Nat) : Env := { ti := look tab, Γ := fns [(86, [], ⟨s_spec_RootOf, fun a => D.spec_RootOf_f n a⟩), (87, [], e_spec_Hash)], loop := fun _ => none, cut := fun _ => none, deep := fun _ => false }
theorem cf_spec_RootOf : ∀ n : Nat, Contract Try.prog 86 s_spec_RootOf (fun a => D.spec_RootOf_f n a)
  | 0 => ⟨⟨_, Try.func86, by kernel_rfl, by kernel_rfl⟩, fun a out w S lent cx vals hF => by cases hF⟩
  | n + 1 => have ih := cf_spec_RootOf n; den_is (E := v_spec_RootOf n) ⟨tab_ti, tab_eq⟩ (fns_cons ih (fns_cons c_spec_Hash (fns_nil _))) mixed Try.func86 (by kernel_rfl) (by kernel_rfl) (fun x => by kernel_rfl)
theorem c_spec_RootOf : Contract Try.prog 86 e_spec_RootOf.sig e_spec_RootOf.F := ⟨(cf_spec_RootOf 0).1, fun a => (cf_spec_RootOf (a.length + 1)).2 a⟩

def s_spec_SealContainer : Sig := { params := [.val false y29, .val false y30, .val false y31], res := [.row 126 y126 false, .row 131 y131 false, .row 138 y138 false, .val false y3], rgroups := [some 4] }
noncomputable def e_spec_SealContainer : Entry := ⟨s_spec_SealContainer, fun a => D.spec_SealContainer a.1 a.2.1 a.2.2⟩
noncomputable def v_spec_SealContainer : Env := { ti := look tab, Γ := fns [(85, [], e_spec_l15Copy), (88, [], e_spec_ScriptInts), (87, [], e_spec_Hash), (89, [], e_spec_l30Entries), (90, [], e_spec_l30Captures), (86, [], e_spec_RootOf)], loop := fun _ => none, cut := fun _ => none, deep := fun _ => false }
theorem c_spec_SealContainer : Contract Try.prog 21 e_spec_SealContainer.sig e_spec_SealContainer.F :=
  den_is (E := v_spec_SealContainer) ⟨tab_ti, tab_eq⟩ (fns_cons c_spec_l15Copy (fns_cons c_spec_ScriptInts (fns_cons c_spec_Hash (fns_cons c_spec_l30Entries (fns_cons c_spec_l30Captures (fns_cons c_spec_RootOf (fns_nil _))))))) mixed Try.func21 (by kernel_rfl) (by kernel_rfl) (fun x => by kernel_rfl)

def s_spec_IsContainer : Sig := { params := [.val true y33], res := [.val false y4] }
noncomputable def e_spec_IsContainer : Entry := ⟨s_spec_IsContainer, fun a => D.spec_IsContainer a⟩
noncomputable def v_spec_IsContainer : Env := { ti := look tab, Γ := fns [(78, [], e_spec_IsScript), (79, [], e_spec_AreEntries), (80, [], e_spec_AreCaptures), (21, [], e_spec_SealContainer)], loop := fun _ => none, cut := fun _ => none, deep := fun _ => false }
theorem c_spec_IsContainer : Contract Try.prog 14 e_spec_IsContainer.sig e_spec_IsContainer.F :=
  den_is (E := v_spec_IsContainer) ⟨tab_ti, tab_eq⟩ (fns_cons c_spec_IsScript (fns_cons c_spec_AreEntries (fns_cons c_spec_AreCaptures (fns_cons c_spec_SealContainer (fns_nil _))))) mixed Try.func14 (by kernel_rfl) (by kernel_rfl) (fun x => by kernel_rfl)

def s_impl_at : Sig := { params := [.val false y3, .val false y3], res := [.val false y4] }
noncomputable def e_impl_at : Entry := ⟨s_impl_at, fun a => D.impl_at a.1 a.2⟩
noncomputable def v_impl_at : Env := { ti := look tab, Γ := fns [], loop := fun _ => none, cut := fun _ => none, deep := fun _ => false }
theorem c_impl_at : Contract Try.prog 123 e_impl_at.sig e_impl_at.F :=
  den_is (E := v_impl_at) ⟨tab_ti, tab_eq⟩ (fns_nil _) mixed Try.func123 (by kernel_rfl) (by kernel_rfl) (fun x => by kernel_rfl)

def s_impl_InRange : Sig := { params := [.val false y3, .val false y3, .val false y3], res := [.val false y4] }
noncomputable def e_impl_InRange : Entry := ⟨s_impl_InRange, fun a => D.impl_InRange a.1 a.2.1 a.2.2⟩
noncomputable def v_impl_InRange : Env := { ti := look tab, Γ := fns [], loop := fun _ => none, cut := fun _ => none, deep := fun _ => false }
theorem c_impl_InRange : Contract Try.prog 111 e_impl_InRange.sig e_impl_InRange.F :=
  den_is (E := v_impl_InRange) ⟨tab_ti, tab_eq⟩ (fns_nil _) mixed Try.func111 (by kernel_rfl) (by kernel_rfl) (fun x => by kernel_rfl)

def s_impl_isOp : Sig := { params := [.val true y126], res := [.val false y4] }
noncomputable def e_impl_isOp : Entry := ⟨s_impl_isOp, fun a => D.impl_isOp a⟩
noncomputable def v_impl_isOp : Env := { ti := look tab, Γ := fns [(123, [], e_impl_at), (111, [], e_impl_InRange)], loop := fun _ => none, cut := fun _ => none, deep := fun _ => false }
theorem c_impl_isOp : Contract Try.prog 157 e_impl_isOp.sig e_impl_isOp.F :=
  den_is (E := v_impl_isOp) ⟨tab_ti, tab_eq⟩ (fns_cons c_impl_at (fns_cons c_impl_InRange (fns_nil _))) mixed Try.func157 (by kernel_rfl) (by kernel_rfl) (fun x => by kernel_rfl)

def s_impl_IsScript_1 : Sig := { params := [.val true y126], res := [.val false y4] }
noncomputable def e_impl_IsScript_1 : Entry := ⟨s_impl_IsScript_1, fun a => D.impl_IsScript_1 a⟩
noncomputable def v_impl_IsScript_1 : Env := { ti := look tab, Γ := fns [(157, [], e_impl_isOp)], loop := fun _ => none, cut := fun _ => none, deep := fun _ => false }
theorem c_impl_IsScript_1 : Contract Try.prog 156 e_impl_IsScript_1.sig e_impl_IsScript_1.F :=
  den_is (E := v_impl_IsScript_1) ⟨tab_ti, tab_eq⟩ (fns_cons c_impl_isOp (fns_nil _)) mixed Try.func156 (by kernel_rfl) (by kernel_rfl) (fun x => by kernel_rfl)

def s_slices_IndexFunc_Op_impl_IsScript_1 : Sig := { params := [.val false y29, .fn 156 []], res := [.val false y3] }
noncomputable def e_slices_IndexFunc_Op_impl_IsScript_1 : Entry := ⟨s_slices_IndexFunc_Op_impl_IsScript_1, fun a => D.slices_IndexFunc_Op_impl_IsScript_1 a.1⟩
noncomputable def v_slices_IndexFunc_Op_impl_IsScript_1 : Env := { ti := look tab, Γ := fns [(156, [], e_impl_IsScript_1)], loop := fun b => match b with | 0 => some [.slot 8 (.int .i64)] | _ => none, cut := fun _ => none, deep := fun _ => false }
theorem c_slices_IndexFunc_Op_impl_IsScript_1 : Contract Try.prog 197 e_slices_IndexFunc_Op_impl_IsScript_1.sig e_slices_IndexFunc_Op_impl_IsScript_1.F :=
  den_is (E := v_slices_IndexFunc_Op_impl_IsScript_1) ⟨tab_ti, tab_eq⟩ (fns_cons c_impl_IsScript_1 (fns_nil _)) mixed Try.func197 (by kernel_rfl) (by kernel_rfl) (fun x => by kernel_rfl)

def s_slices_ContainsFunc_Op_impl_IsScript_1 : Sig := { params := [.val false y29, .fn 156 []], res := [.val false y4] }
noncomputable def e_slices_ContainsFunc_Op_impl_IsScript_1 : Entry := ⟨s_slices_ContainsFunc_Op_impl_IsScript_1, fun a => D.slices_ContainsFunc_Op_impl_IsScript_1 a.1⟩
noncomputable def v_slices_ContainsFunc_Op_impl_IsScript_1 : Env := { ti := look tab, Γ := fns [(197, [156], e_slices_IndexFunc_Op_impl_IsScript_1)], loop := fun _ => none, cut := fun _ => none, deep := fun _ => false }
theorem c_slices_ContainsFunc_Op_impl_IsScript_1 : Contract Try.prog 155 e_slices_ContainsFunc_Op_impl_IsScript_1.sig e_slices_ContainsFunc_Op_impl_IsScript_1.F :=
  den_is (E := v_slices_ContainsFunc_Op_impl_IsScript_1) ⟨tab_ti, tab_eq⟩ (fns_cons c_slices_IndexFunc_Op_impl_IsScript_1 (fns_nil _)) mixed Try.func155 (by kernel_rfl) (by kernel_rfl) (fun x => by kernel_rfl)

def s_impl_IsScript : Sig := { params := [.val false y29], res := [.val false y4] }
noncomputable def e_impl_IsScript : Entry := ⟨s_impl_IsScript, fun a => D.impl_IsScript a⟩
noncomputable def v_impl_IsScript : Env := { ti := look tab, Γ := fns [(155, [156], e_slices_ContainsFunc_Op_impl_IsScript_1)], loop := fun _ => none, cut := fun _ => none, deep := fun _ => false }
theorem c_impl_IsScript : Contract Try.prog 81 e_impl_IsScript.sig e_impl_IsScript.F :=
  den_is (E := v_impl_IsScript) ⟨tab_ti, tab_eq⟩ (fns_cons c_slices_ContainsFunc_Op_impl_IsScript_1 (fns_nil _)) mixed Try.func81 (by kernel_rfl) (by kernel_rfl) (fun x => by kernel_rfl)

def s_impl_IsAddress : Sig := { params := [.val true y129], res := [.val false y4] }
noncomputable def e_impl_IsAddress : Entry := ⟨s_impl_IsAddress, fun a => D.impl_IsAddress a⟩
noncomputable def v_impl_IsAddress : Env := { ti := look tab, Γ := fns [(111, [], e_impl_InRange)], loop := fun _ => none, cut := fun _ => none, deep := fun _ => false }
theorem c_impl_IsAddress : Contract Try.prog 160 e_impl_IsAddress.sig e_impl_IsAddress.F :=
  den_is (E := v_impl_IsAddress) ⟨tab_ti, tab_eq⟩ (fns_cons c_impl_InRange (fns_nil _)) mixed Try.func160 (by kernel_rfl) (by kernel_rfl) (fun x => by kernel_rfl)

def s_impl_Asks : Sig := { params := [.val false y3], res := [.val false y4] }
noncomputable def e_impl_Asks : Entry := ⟨s_impl_Asks, fun a => D.impl_Asks a⟩
noncomputable def v_impl_Asks : Env := { ti := look tab, Γ := fns [(111, [], e_impl_InRange)], loop := fun _ => none, cut := fun _ => none, deep := fun _ => false }
theorem c_impl_Asks : Contract Try.prog 161 e_impl_Asks.sig e_impl_Asks.F :=
  den_is (E := v_impl_Asks) ⟨tab_ti, tab_eq⟩ (fns_cons c_impl_InRange (fns_nil _)) mixed Try.func161 (by kernel_rfl) (by kernel_rfl) (fun x => by kernel_rfl)

def s_impl_AreEntries_1 : Sig := { params := [.val true y131], res := [.val false y4] }
noncomputable def e_impl_AreEntries_1 : Entry := ⟨s_impl_AreEntries_1, fun a => D.impl_AreEntries_1 a⟩
noncomputable def v_impl_AreEntries_1 : Env := { ti := look tab, Γ := fns [(160, [], e_impl_IsAddress), (111, [], e_impl_InRange), (161, [], e_impl_Asks)], loop := fun _ => none, cut := fun _ => none, deep := fun _ => false }
theorem c_impl_AreEntries_1 : Contract Try.prog 159 e_impl_AreEntries_1.sig e_impl_AreEntries_1.F :=
  den_is (E := v_impl_AreEntries_1) ⟨tab_ti, tab_eq⟩ (fns_cons c_impl_IsAddress (fns_cons c_impl_InRange (fns_cons c_impl_Asks (fns_nil _)))) mixed Try.func159 (by kernel_rfl) (by kernel_rfl) (fun x => by kernel_rfl)

def s_slices_IndexFunc_Entry_impl_AreEntries_1 : Sig := { params := [.val false y30, .fn 159 []], res := [.val false y3] }
noncomputable def e_slices_IndexFunc_Entry_impl_AreEntries_1 : Entry := ⟨s_slices_IndexFunc_Entry_impl_AreEntries_1, fun a => D.slices_IndexFunc_Entry_impl_AreEntries_1 a.1⟩
noncomputable def v_slices_IndexFunc_Entry_impl_AreEntries_1 : Env := { ti := look tab, Γ := fns [(159, [], e_impl_AreEntries_1)], loop := fun b => match b with | 0 => some [.slot 8 (.int .i64)] | _ => none, cut := fun _ => none, deep := fun _ => false }
theorem c_slices_IndexFunc_Entry_impl_AreEntries_1 : Contract Try.prog 198 e_slices_IndexFunc_Entry_impl_AreEntries_1.sig e_slices_IndexFunc_Entry_impl_AreEntries_1.F :=
  den_is (E := v_slices_IndexFunc_Entry_impl_AreEntries_1) ⟨tab_ti, tab_eq⟩ (fns_cons c_impl_AreEntries_1 (fns_nil _)) mixed Try.func198 (by kernel_rfl) (by kernel_rfl) (fun x => by kernel_rfl)

def s_slices_ContainsFunc_Entry_impl_AreEntries_1 : Sig := { params := [.val false y30, .fn 159 []], res := [.val false y4] }
noncomputable def e_slices_ContainsFunc_Entry_impl_AreEntries_1 : Entry := ⟨s_slices_ContainsFunc_Entry_impl_AreEntries_1, fun a => D.slices_ContainsFunc_Entry_impl_AreEntries_1 a.1⟩
noncomputable def v_slices_ContainsFunc_Entry_impl_AreEntries_1 : Env := { ti := look tab, Γ := fns [(198, [159], e_slices_IndexFunc_Entry_impl_AreEntries_1)], loop := fun _ => none, cut := fun _ => none, deep := fun _ => false }
theorem c_slices_ContainsFunc_Entry_impl_AreEntries_1 : Contract Try.prog 158 e_slices_ContainsFunc_Entry_impl_AreEntries_1.sig e_slices_ContainsFunc_Entry_impl_AreEntries_1.F :=
  den_is (E := v_slices_ContainsFunc_Entry_impl_AreEntries_1) ⟨tab_ti, tab_eq⟩ (fns_cons c_slices_IndexFunc_Entry_impl_AreEntries_1 (fns_nil _)) mixed Try.func158 (by kernel_rfl) (by kernel_rfl) (fun x => by kernel_rfl)

def s_impl_AreEntries : Sig := { params := [.val false y30], res := [.val false y4] }
noncomputable def e_impl_AreEntries : Entry := ⟨s_impl_AreEntries, fun a => D.impl_AreEntries a⟩
noncomputable def v_impl_AreEntries : Env := { ti := look tab, Γ := fns [(158, [159], e_slices_ContainsFunc_Entry_impl_AreEntries_1)], loop := fun _ => none, cut := fun _ => none, deep := fun _ => false }
theorem c_impl_AreEntries : Contract Try.prog 82 e_impl_AreEntries.sig e_impl_AreEntries.F :=
  den_is (E := v_impl_AreEntries) ⟨tab_ti, tab_eq⟩ (fns_cons c_slices_ContainsFunc_Entry_impl_AreEntries_1 (fns_nil _)) mixed Try.func82 (by kernel_rfl) (by kernel_rfl) (fun x => by kernel_rfl)

def s_impl_allIn : Sig := { params := [.val false y73, .val false y3, .val false y3], res := [.val false y4] }
noncomputable def e_impl_allIn : Entry := ⟨s_impl_allIn, fun a => D.impl_allIn a.1 a.2.1 a.2.2⟩
noncomputable def v_impl_allIn : Env := { ti := look tab, Γ := fns [(111, [], e_impl_InRange)], loop := fun b => match b with | 0 => some [.slot 11 (.int .i64)] | _ => none, cut := fun _ => none, deep := fun _ => false }
theorem c_impl_allIn : Contract Try.prog 200 e_impl_allIn.sig e_impl_allIn.F :=
  den_is (E := v_impl_allIn) ⟨tab_ti, tab_eq⟩ (fns_cons c_impl_InRange (fns_nil _)) mixed Try.func200 (by kernel_rfl) (by kernel_rfl) (fun x => by kernel_rfl)

def s_impl_IsResource : Sig := { params := [.val true y136], res := [.val false y4] }
noncomputable def e_impl_IsResource : Entry := ⟨s_impl_IsResource, fun a => D.impl_IsResource a⟩
noncomputable def v_impl_IsResource : Env := { ti := look tab, Γ := fns [(200, [], e_impl_allIn), (160, [], e_impl_IsAddress)], loop := fun _ => none, cut := fun _ => none, deep := fun _ => false }
theorem c_impl_IsResource : Contract Try.prog 164 e_impl_IsResource.sig e_impl_IsResource.F :=
  den_is (E := v_impl_IsResource) ⟨tab_ti, tab_eq⟩ (fns_cons c_impl_allIn (fns_cons c_impl_IsAddress (fns_nil _))) mixed Try.func164 (by kernel_rfl) (by kernel_rfl) (fun x => by kernel_rfl)

def s_impl_AreCaptures_1 : Sig := { params := [.val true y138], res := [.val false y4] }
noncomputable def e_impl_AreCaptures_1 : Entry := ⟨s_impl_AreCaptures_1, fun a => D.impl_AreCaptures_1 a⟩
noncomputable def v_impl_AreCaptures_1 : Env := { ti := look tab, Γ := fns [(160, [], e_impl_IsAddress), (111, [], e_impl_InRange), (164, [], e_impl_IsResource)], loop := fun _ => none, cut := fun _ => none, deep := fun _ => false }
theorem c_impl_AreCaptures_1 : Contract Try.prog 163 e_impl_AreCaptures_1.sig e_impl_AreCaptures_1.F :=
  den_is (E := v_impl_AreCaptures_1) ⟨tab_ti, tab_eq⟩ (fns_cons c_impl_IsAddress (fns_cons c_impl_InRange (fns_cons c_impl_IsResource (fns_nil _)))) mixed Try.func163 (by kernel_rfl) (by kernel_rfl) (fun x => by kernel_rfl)

def s_slices_IndexFunc_Capture_impl_AreCaptures_1 : Sig := { params := [.val false y31, .fn 163 []], res := [.val false y3] }
noncomputable def e_slices_IndexFunc_Capture_impl_AreCaptures_1 : Entry := ⟨s_slices_IndexFunc_Capture_impl_AreCaptures_1, fun a => D.slices_IndexFunc_Capture_impl_AreCaptures_1 a.1⟩
noncomputable def v_slices_IndexFunc_Capture_impl_AreCaptures_1 : Env := { ti := look tab, Γ := fns [(163, [], e_impl_AreCaptures_1)], loop := fun b => match b with | 0 => some [.slot 8 (.int .i64)] | _ => none, cut := fun _ => none, deep := fun _ => false }
theorem c_slices_IndexFunc_Capture_impl_AreCaptures_1 : Contract Try.prog 199 e_slices_IndexFunc_Capture_impl_AreCaptures_1.sig e_slices_IndexFunc_Capture_impl_AreCaptures_1.F :=
  den_is (E := v_slices_IndexFunc_Capture_impl_AreCaptures_1) ⟨tab_ti, tab_eq⟩ (fns_cons c_impl_AreCaptures_1 (fns_nil _)) mixed Try.func199 (by kernel_rfl) (by kernel_rfl) (fun x => by kernel_rfl)

def s_slices_ContainsFunc_Capture_impl_AreCaptures_1 : Sig := { params := [.val false y31, .fn 163 []], res := [.val false y4] }
noncomputable def e_slices_ContainsFunc_Capture_impl_AreCaptures_1 : Entry := ⟨s_slices_ContainsFunc_Capture_impl_AreCaptures_1, fun a => D.slices_ContainsFunc_Capture_impl_AreCaptures_1 a.1⟩
noncomputable def v_slices_ContainsFunc_Capture_impl_AreCaptures_1 : Env := { ti := look tab, Γ := fns [(199, [163], e_slices_IndexFunc_Capture_impl_AreCaptures_1)], loop := fun _ => none, cut := fun _ => none, deep := fun _ => false }
theorem c_slices_ContainsFunc_Capture_impl_AreCaptures_1 : Contract Try.prog 162 e_slices_ContainsFunc_Capture_impl_AreCaptures_1.sig e_slices_ContainsFunc_Capture_impl_AreCaptures_1.F :=
  den_is (E := v_slices_ContainsFunc_Capture_impl_AreCaptures_1) ⟨tab_ti, tab_eq⟩ (fns_cons c_slices_IndexFunc_Capture_impl_AreCaptures_1 (fns_nil _)) mixed Try.func162 (by kernel_rfl) (by kernel_rfl) (fun x => by kernel_rfl)

def s_impl_AreCaptures : Sig := { params := [.val false y31], res := [.val false y4] }
noncomputable def e_impl_AreCaptures : Entry := ⟨s_impl_AreCaptures, fun a => D.impl_AreCaptures a⟩
noncomputable def v_impl_AreCaptures : Env := { ti := look tab, Γ := fns [(162, [163], e_slices_ContainsFunc_Capture_impl_AreCaptures_1)], loop := fun _ => none, cut := fun _ => none, deep := fun _ => false }
theorem c_impl_AreCaptures : Contract Try.prog 83 e_impl_AreCaptures.sig e_impl_AreCaptures.F :=
  den_is (E := v_impl_AreCaptures) ⟨tab_ti, tab_eq⟩ (fns_cons c_slices_ContainsFunc_Capture_impl_AreCaptures_1 (fns_nil _)) mixed Try.func83 (by kernel_rfl) (by kernel_rfl) (fun x => by kernel_rfl)

def s_impl_ResourceInts : Sig := { params := [.val true y136], res := [.row 3 y3 false] }
noncomputable def e_impl_ResourceInts : Entry := ⟨s_impl_ResourceInts, fun a => D.impl_ResourceInts a⟩
noncomputable def v_impl_ResourceInts : Env := { ti := look tab, Γ := fns [], loop := fun _ => none, cut := fun _ => none, deep := fun _ => false }
theorem c_impl_ResourceInts : Contract Try.prog 170 e_impl_ResourceInts.sig e_impl_ResourceInts.F :=
  den_is (E := v_impl_ResourceInts) ⟨tab_ti, tab_eq⟩ (fns_nil _) mixed Try.func170 (by kernel_rfl) (by kernel_rfl) (fun x => by kernel_rfl)

def s_impl_CaptureInts : Sig := { params := [.val true y138], res := [.row 3 y3 false] }
noncomputable def e_impl_CaptureInts : Entry := ⟨s_impl_CaptureInts, fun a => D.impl_CaptureInts a⟩
noncomputable def v_impl_CaptureInts : Env := { ti := look tab, Γ := fns [(170, [], e_impl_ResourceInts)], loop := fun _ => none, cut := fun _ => none, deep := fun _ => false }
theorem c_impl_CaptureInts : Contract Try.prog 95 e_impl_CaptureInts.sig e_impl_CaptureInts.F :=
  den_is (E := v_impl_CaptureInts) ⟨tab_ti, tab_eq⟩ (fns_cons c_impl_ResourceInts (fns_nil _)) mixed Try.func95 (by kernel_rfl) (by kernel_rfl) (fun x => by kernel_rfl)

def s_impl_Mod : Sig := { params := [.val false y3, .val false y3], res := [.val false y3] }
noncomputable def e_impl_Mod : Entry := ⟨s_impl_Mod, fun a => D.impl_Mod a.1 a.2⟩
noncomputable def v_impl_Mod : Env := { ti := look tab, Γ := fns [(111, [], e_impl_InRange)], loop := fun _ => none, cut := fun _ => none, deep := fun _ => false }
theorem c_impl_Mod : Contract Try.prog 141 e_impl_Mod.sig e_impl_Mod.F :=
  den_is (E := v_impl_Mod) ⟨tab_ti, tab_eq⟩ (fns_cons c_impl_InRange (fns_nil _)) mixed Try.func141 (by kernel_rfl) (by kernel_rfl) (fun x => by kernel_rfl)

def s_impl_Hash : Sig := { params := [.val false y73], res := [.val false y3] }
noncomputable def e_impl_Hash : Entry := ⟨s_impl_Hash, fun a => D.impl_Hash a⟩
noncomputable def v_impl_Hash : Env := { ti := look tab, Γ := fns [(141, [], e_impl_Mod)], loop := fun b => match b with | 0 => some [.slot 3 (.int .i64), .slot 8 (.int .i64)] | _ => none, cut := fun _ => none, deep := fun _ => false }
theorem c_impl_Hash : Contract Try.prog 94 e_impl_Hash.sig e_impl_Hash.F :=
  den_is (E := v_impl_Hash) ⟨tab_ti, tab_eq⟩ (fns_cons c_impl_Mod (fns_nil _)) mixed Try.func94 (by kernel_rfl) (by kernel_rfl) (fun x => by kernel_rfl)

def s_slices_Clone_Op : Sig := { params := [.val false y29], res := [.row 126 y126 false] }
noncomputable def e_slices_Clone_Op : Entry := ⟨s_slices_Clone_Op, fun a => D.slices_Clone_Op a⟩
noncomputable def v_slices_Clone_Op : Env := { ti := look tab, Γ := fns [], loop := fun _ => none, cut := fun _ => none, deep := fun _ => false }
theorem c_slices_Clone_Op : Contract Try.prog 96 e_slices_Clone_Op.sig e_slices_Clone_Op.F :=
  den_is (E := v_slices_Clone_Op) ⟨tab_ti, tab_eq⟩ (fns_nil _) mixed Try.func96 (by kernel_rfl) (by kernel_rfl) (fun x => by kernel_rfl)

def s_slices_Clone_Entry : Sig := { params := [.val false y30], res := [.row 131 y131 false] }
noncomputable def e_slices_Clone_Entry : Entry := ⟨s_slices_Clone_Entry, fun a => D.slices_Clone_Entry a⟩
noncomputable def v_slices_Clone_Entry : Env := { ti := look tab, Γ := fns [], loop := fun _ => none, cut := fun _ => none, deep := fun _ => false }
theorem c_slices_Clone_Entry : Contract Try.prog 97 e_slices_Clone_Entry.sig e_slices_Clone_Entry.F :=
  den_is (E := v_slices_Clone_Entry) ⟨tab_ti, tab_eq⟩ (fns_nil _) mixed Try.func97 (by kernel_rfl) (by kernel_rfl) (fun x => by kernel_rfl)

def s_slices_Clone_int : Sig := { params := [.val false y73], res := [.row 3 y3 false] }
noncomputable def e_slices_Clone_int : Entry := ⟨s_slices_Clone_int, fun a => D.slices_Clone_int a⟩
noncomputable def v_slices_Clone_int : Env := { ti := look tab, Γ := fns [], loop := fun _ => none, cut := fun _ => none, deep := fun _ => false }
theorem c_slices_Clone_int : Contract Try.prog 186 e_slices_Clone_int.sig e_slices_Clone_int.F :=
  den_is (E := v_slices_Clone_int) ⟨tab_ti, tab_eq⟩ (fns_nil _) mixed Try.func186 (by kernel_rfl) (by kernel_rfl) (fun x => by kernel_rfl)

def s_impl_copyResource : Sig := { params := [.val true y136], res := [.val false y3, .row 3 y3 false, .val false y3, .val false y3, .val false y3], rgroups := [some 5] }
noncomputable def e_impl_copyResource : Entry := ⟨s_impl_copyResource, fun a => D.impl_copyResource a⟩
noncomputable def v_impl_copyResource : Env := { ti := look tab, Γ := fns [(186, [], e_slices_Clone_int)], loop := fun _ => none, cut := fun _ => none, deep := fun _ => false }
theorem c_impl_copyResource : Contract Try.prog 171 e_impl_copyResource.sig e_impl_copyResource.F :=
  den_is (E := v_impl_copyResource) ⟨tab_ti, tab_eq⟩ (fns_cons c_slices_Clone_int (fns_nil _)) mixed Try.func171 (by kernel_rfl) (by kernel_rfl) (fun x => by kernel_rfl)

def s_impl_copyCaptures : Sig := { params := [.val false y31], res := [.row 138 y138 false] }
noncomputable def e_impl_copyCaptures : Entry := ⟨s_impl_copyCaptures, fun a => D.impl_copyCaptures a⟩
noncomputable def v_impl_copyCaptures : Env := { ti := look tab, Γ := fns [(171, [], e_impl_copyResource)], loop := fun b => match b with | 0 => some [.slot 3 (.own 138 y138 false), .slot 8 (.int .i64)] | _ => none, cut := fun _ => none, deep := fun _ => false }
theorem c_impl_copyCaptures : Contract Try.prog 98 e_impl_copyCaptures.sig e_impl_copyCaptures.F :=
  den_is (E := v_impl_copyCaptures) ⟨tab_ti, tab_eq⟩ (fns_cons c_impl_copyResource (fns_nil _)) mixed Try.func98 (by kernel_rfl) (by kernel_rfl) (fun x => by kernel_rfl)

def s_impl_ScriptInts : Sig := { params := [.val false y29], res := [.row 3 y3 false] }
noncomputable def e_impl_ScriptInts : Entry := ⟨s_impl_ScriptInts, fun a => D.impl_ScriptInts a⟩
noncomputable def v_impl_ScriptInts : Env := { ti := look tab, Γ := fns [], loop := fun b => match b with | 0 => some [.slot 3 (.own 3 y3 false), .slot 8 (.int .i64)] | _ => none, cut := fun _ => none, deep := fun _ => false }
theorem c_impl_ScriptInts : Contract Try.prog 100 e_impl_ScriptInts.sig e_impl_ScriptInts.F :=
  den_is (E := v_impl_ScriptInts) ⟨tab_ti, tab_eq⟩ (fns_nil _) mixed Try.func100 (by kernel_rfl) (by kernel_rfl) (fun x => by kernel_rfl)

def s_impl_RootOf : Sig := { params := [.val false y73], res := [.val false y3] }
noncomputable def e_impl_RootOf : Entry := ⟨s_impl_RootOf, fun a => D.impl_RootOf a⟩
noncomputable def v_impl_RootOf (n : Nat) : Env := { ti := look tab, Γ := fns [(99, [], ⟨s_impl_RootOf, fun a => D.impl_RootOf_f n a⟩), (94, [], e_impl_Hash)], loop := fun _ => none, cut := fun _ => none, deep := fun _ => false }
theorem cf_impl_RootOf : ∀ n : Nat, Contract Try.prog 99 s_impl_RootOf (fun a => D.impl_RootOf_f n a)
  | 0 => ⟨⟨_, Try.func99, by kernel_rfl, by kernel_rfl⟩, fun a out w S lent cx vals hF => by cases hF⟩
  | n + 1 => have ih := cf_impl_RootOf n; den_is (E := v_impl_RootOf n) ⟨tab_ti, tab_eq⟩ (fns_cons ih (fns_cons c_impl_Hash (fns_nil _))) mixed Try.func99 (by kernel_rfl) (by kernel_rfl) (fun x => by kernel_rfl)
theorem c_impl_RootOf : Contract Try.prog 99 e_impl_RootOf.sig e_impl_RootOf.F := ⟨(cf_impl_RootOf 0).1, fun a => (cf_impl_RootOf (a.length + 1)).2 a⟩

def s_impl_SealContainer : Sig := { params := [.val false y29, .val false y30, .val false y31], res := [.row 126 y126 false, .row 131 y131 false, .row 138 y138 false, .val false y3], rgroups := [some 4] }
noncomputable def e_impl_SealContainer : Entry := ⟨s_impl_SealContainer, fun a => D.impl_SealContainer a.1 a.2.1 a.2.2⟩
noncomputable def v_impl_SealContainer : Env := { ti := look tab, Γ := fns [(95, [], e_impl_CaptureInts), (94, [], e_impl_Hash), (96, [], e_slices_Clone_Op), (97, [], e_slices_Clone_Entry), (98, [], e_impl_copyCaptures), (100, [], e_impl_ScriptInts), (99, [], e_impl_RootOf)], loop := fun b => match b with | 0 => some [.slot 7 (.own 3 y3 false), .slot 15 (.int .i64)] | 2 => some [.slot 8 (.own 3 y3 false), .slot 38 (.int .i64)] | _ => none, cut := fun _ => none, deep := fun _ => false }
theorem c_impl_SealContainer : Contract Try.prog 25 e_impl_SealContainer.sig e_impl_SealContainer.F :=
  den_is (E := v_impl_SealContainer) ⟨tab_ti, tab_eq⟩ (fns_cons c_impl_CaptureInts (fns_cons c_impl_Hash (fns_cons c_slices_Clone_Op (fns_cons c_slices_Clone_Entry (fns_cons c_impl_copyCaptures (fns_cons c_impl_ScriptInts (fns_cons c_impl_RootOf (fns_nil _)))))))) mixed Try.func25 (by kernel_rfl) (by kernel_rfl) (fun x => by kernel_rfl)

def s_impl_IsContainer : Sig := { params := [.val true y33], res := [.val false y4] }
noncomputable def e_impl_IsContainer : Entry := ⟨s_impl_IsContainer, fun a => D.impl_IsContainer a⟩
noncomputable def v_impl_IsContainer : Env := { ti := look tab, Γ := fns [(81, [], e_impl_IsScript), (82, [], e_impl_AreEntries), (83, [], e_impl_AreCaptures), (25, [], e_impl_SealContainer)], loop := fun _ => none, cut := fun _ => none, deep := fun _ => false }
theorem c_impl_IsContainer : Contract Try.prog 16 e_impl_IsContainer.sig e_impl_IsContainer.F :=
  den_is (E := v_impl_IsContainer) ⟨tab_ti, tab_eq⟩ (fns_cons c_impl_IsScript (fns_cons c_impl_AreEntries (fns_cons c_impl_AreCaptures (fns_cons c_impl_SealContainer (fns_nil _))))) mixed Try.func16 (by kernel_rfl) (by kernel_rfl) (fun x => by kernel_rfl)

def s_laws_eqOp : Sig := { params := [.val true y126, .val true y126], res := [.val false y4] }
noncomputable def e_laws_eqOp : Entry := ⟨s_laws_eqOp, fun a => D.laws_eqOp a.1 a.2⟩
noncomputable def v_laws_eqOp : Env := { ti := look tab, Γ := fns [], loop := fun _ => none, cut := fun _ => none, deep := fun _ => false }
theorem c_laws_eqOp : Contract Try.prog 101 e_laws_eqOp.sig e_laws_eqOp.F :=
  den_is (E := v_laws_eqOp) ⟨tab_ti, tab_eq⟩ (fns_nil _) mixed Try.func101 (by kernel_rfl) (by kernel_rfl) (fun x => by kernel_rfl)

def s_laws_eqOpS : Sig := { params := [.val false y29, .val false y29], res := [.val false y4] }
noncomputable def e_laws_eqOpS : Entry := ⟨s_laws_eqOpS, fun a => D.laws_eqOpS a.1 a.2⟩
noncomputable def v_laws_eqOpS : Env := { ti := look tab, Γ := fns [(101, [], e_laws_eqOp)], loop := fun b => match b with | 0 => some [.slot 5 (.int .i64)] | _ => none, cut := fun _ => none, deep := fun _ => false }
theorem c_laws_eqOpS : Contract Try.prog 26 e_laws_eqOpS.sig e_laws_eqOpS.F :=
  den_is (E := v_laws_eqOpS) ⟨tab_ti, tab_eq⟩ (fns_cons c_laws_eqOp (fns_nil _)) mixed Try.func26 (by kernel_rfl) (by kernel_rfl) (fun x => by kernel_rfl)

def s_laws_eqAddress : Sig := { params := [.val true y129, .val true y129], res := [.val false y4] }
noncomputable def e_laws_eqAddress : Entry := ⟨s_laws_eqAddress, fun a => D.laws_eqAddress a.1 a.2⟩
noncomputable def v_laws_eqAddress : Env := { ti := look tab, Γ := fns [], loop := fun _ => none, cut := fun _ => none, deep := fun _ => false }
theorem c_laws_eqAddress : Contract Try.prog 115 e_laws_eqAddress.sig e_laws_eqAddress.F :=
  den_is (E := v_laws_eqAddress) ⟨tab_ti, tab_eq⟩ (fns_nil _) mixed Try.func115 (by kernel_rfl) (by kernel_rfl) (fun x => by kernel_rfl)

def s_laws_eqEntry : Sig := { params := [.val true y131, .val true y131], res := [.val false y4] }
noncomputable def e_laws_eqEntry : Entry := ⟨s_laws_eqEntry, fun a => D.laws_eqEntry a.1 a.2⟩
noncomputable def v_laws_eqEntry : Env := { ti := look tab, Γ := fns [(115, [], e_laws_eqAddress)], loop := fun _ => none, cut := fun _ => none, deep := fun _ => false }
theorem c_laws_eqEntry : Contract Try.prog 102 e_laws_eqEntry.sig e_laws_eqEntry.F :=
  den_is (E := v_laws_eqEntry) ⟨tab_ti, tab_eq⟩ (fns_cons c_laws_eqAddress (fns_nil _)) mixed Try.func102 (by kernel_rfl) (by kernel_rfl) (fun x => by kernel_rfl)

def s_laws_eqEntryS : Sig := { params := [.val false y30, .val false y30], res := [.val false y4] }
noncomputable def e_laws_eqEntryS : Entry := ⟨s_laws_eqEntryS, fun a => D.laws_eqEntryS a.1 a.2⟩
noncomputable def v_laws_eqEntryS : Env := { ti := look tab, Γ := fns [(102, [], e_laws_eqEntry)], loop := fun b => match b with | 0 => some [.slot 5 (.int .i64)] | _ => none, cut := fun _ => none, deep := fun _ => false }
theorem c_laws_eqEntryS : Contract Try.prog 27 e_laws_eqEntryS.sig e_laws_eqEntryS.F :=
  den_is (E := v_laws_eqEntryS) ⟨tab_ti, tab_eq⟩ (fns_cons c_laws_eqEntry (fns_nil _)) mixed Try.func27 (by kernel_rfl) (by kernel_rfl) (fun x => by kernel_rfl)

def s_laws_eqIntS : Sig := { params := [.val false y73, .val false y73], res := [.val false y4] }
noncomputable def e_laws_eqIntS : Entry := ⟨s_laws_eqIntS, fun a => D.laws_eqIntS a.1 a.2⟩
noncomputable def v_laws_eqIntS : Env := { ti := look tab, Γ := fns [], loop := fun b => match b with | 0 => some [.slot 5 (.int .i64)] | _ => none, cut := fun _ => none, deep := fun _ => false }
theorem c_laws_eqIntS : Contract Try.prog 59 e_laws_eqIntS.sig e_laws_eqIntS.F :=
  den_is (E := v_laws_eqIntS) ⟨tab_ti, tab_eq⟩ (fns_nil _) mixed Try.func59 (by kernel_rfl) (by kernel_rfl) (fun x => by kernel_rfl)

def s_laws_eqResource : Sig := { params := [.val true y136, .val true y136], res := [.val false y4] }
noncomputable def e_laws_eqResource : Entry := ⟨s_laws_eqResource, fun a => D.laws_eqResource a.1 a.2⟩
noncomputable def v_laws_eqResource : Env := { ti := look tab, Γ := fns [(59, [], e_laws_eqIntS), (115, [], e_laws_eqAddress)], loop := fun _ => none, cut := fun _ => none, deep := fun _ => false }
theorem c_laws_eqResource : Contract Try.prog 172 e_laws_eqResource.sig e_laws_eqResource.F :=
  den_is (E := v_laws_eqResource) ⟨tab_ti, tab_eq⟩ (fns_cons c_laws_eqIntS (fns_cons c_laws_eqAddress (fns_nil _))) mixed Try.func172 (by kernel_rfl) (by kernel_rfl) (fun x => by kernel_rfl)

def s_laws_eqCapture : Sig := { params := [.val true y138, .val true y138], res := [.val false y4] }
noncomputable def e_laws_eqCapture : Entry := ⟨s_laws_eqCapture, fun a => D.laws_eqCapture a.1 a.2⟩
noncomputable def v_laws_eqCapture : Env := { ti := look tab, Γ := fns [(115, [], e_laws_eqAddress), (172, [], e_laws_eqResource)], loop := fun _ => none, cut := fun _ => none, deep := fun _ => false }
theorem c_laws_eqCapture : Contract Try.prog 103 e_laws_eqCapture.sig e_laws_eqCapture.F :=
  den_is (E := v_laws_eqCapture) ⟨tab_ti, tab_eq⟩ (fns_cons c_laws_eqAddress (fns_cons c_laws_eqResource (fns_nil _))) mixed Try.func103 (by kernel_rfl) (by kernel_rfl) (fun x => by kernel_rfl)

def s_laws_eqCaptureS : Sig := { params := [.val false y31, .val false y31], res := [.val false y4] }
noncomputable def e_laws_eqCaptureS : Entry := ⟨s_laws_eqCaptureS, fun a => D.laws_eqCaptureS a.1 a.2⟩
noncomputable def v_laws_eqCaptureS : Env := { ti := look tab, Γ := fns [(103, [], e_laws_eqCapture)], loop := fun b => match b with | 0 => some [.slot 5 (.int .i64)] | _ => none, cut := fun _ => none, deep := fun _ => false }
theorem c_laws_eqCaptureS : Contract Try.prog 28 e_laws_eqCaptureS.sig e_laws_eqCaptureS.F :=
  den_is (E := v_laws_eqCaptureS) ⟨tab_ti, tab_eq⟩ (fns_cons c_laws_eqCapture (fns_nil _)) mixed Try.func28 (by kernel_rfl) (by kernel_rfl) (fun x => by kernel_rfl)

def s_laws_eqContainer : Sig := { params := [.val true y33, .val true y33], res := [.val false y4] }
noncomputable def e_laws_eqContainer : Entry := ⟨s_laws_eqContainer, fun a => D.laws_eqContainer a.1 a.2⟩
noncomputable def v_laws_eqContainer : Env := { ti := look tab, Γ := fns [(26, [], e_laws_eqOpS), (27, [], e_laws_eqEntryS), (28, [], e_laws_eqCaptureS)], loop := fun _ => none, cut := fun _ => none, deep := fun _ => false }
theorem c_laws_eqContainer : Contract Try.prog 17 e_laws_eqContainer.sig e_laws_eqContainer.F :=
  den_is (E := v_laws_eqContainer) ⟨tab_ti, tab_eq⟩ (fns_cons c_laws_eqOpS (fns_cons c_laws_eqEntryS (fns_cons c_laws_eqCaptureS (fns_nil _)))) mixed Try.func17 (by kernel_rfl) (by kernel_rfl) (fun x => by kernel_rfl)

def s_laws_FnExactIsContainer : Sig := { params := [.val true y26], res := [.val false y4] }
noncomputable def e_laws_FnExactIsContainer : Entry := ⟨s_laws_FnExactIsContainer, fun a => D.laws_FnExactIsContainer a⟩
noncomputable def v_laws_FnExactIsContainer : Env := { ti := look tab, Γ := fns [(13, [], e_laws_szContainer), (15, [], e_laws_toContainer), (14, [], e_spec_IsContainer), (16, [], e_impl_IsContainer), (17, [], e_laws_eqContainer)], loop := fun _ => none, cut := fun _ => none, deep := fun _ => false }
theorem c_laws_FnExactIsContainer : Contract Try.prog 3 e_laws_FnExactIsContainer.sig e_laws_FnExactIsContainer.F :=
  den_is (E := v_laws_FnExactIsContainer) ⟨tab_ti, tab_eq⟩ (fns_cons c_laws_szContainer (fns_cons c_laws_toContainer (fns_cons c_spec_IsContainer (fns_cons c_impl_IsContainer (fns_cons c_laws_eqContainer (fns_nil _)))))) mixed Try.func3 (by kernel_rfl) (by kernel_rfl) (fun x => by kernel_rfl)

theorem law_true (a : Tup (s_laws_FnExactIsContainer.params.map PTy.den)) (hok : argsOk Try.prog s_laws_FnExactIsContainer.params a) : D.laws_FnExactIsContainer a = some true := D.FnExactIsContainer_true a (Ty.ok_bd (P := Try.prog) (t := y26) (by kernel_rfl) hok.1)
theorem lifted (os : Os) (started : os.Started) (H : Type) (enc : TypeId × Value → H) :
    ReturnsInHanded {} Try.checked os 3 .any (Rows.fnExactIsContainerSpec.pre6 enc Try.prog Try.f3 Rows.fnExactIsContainerRow.domain false) (Rows.fnExactIsContainerSpec.post enc Try.prog Try.f3 false true false false) := by
  refine returnsInHanded_of_change_sized (C := Try.checked) (by kernel_rfl) started (by kernel_rfl) Try.func3
    (ChangeSpec.witness6 (enc := enc) (C := Try.checked) false ⟨#[], #[.agg #[.slice none 0 0, .slice none 0 0, .slice none 0 0, .int .i64 0]], []⟩ 8 (by kernel_rfl) (by kernel_rfl) (by kernel_rfl) (by kernel_rfl)) ?_
  intro W base args ds gs before hval hW hcnd hsz _
  exact law_row (C := Try.checked) rfl c_laws_FnExactIsContainer (N := 8) (by kernel_rfl) (tb := 4) (by kernel_rfl) (by kernel_rfl) (by kernel_rfl) (by kernel_rfl) rfl
    (fun ds h => by
      have h : ds.length = 1 := h
      match ds, h with
      | [d0], _ => rfl)
    bulky_sizeOf (small := fun _ => True) (fun a ds hok _ _ => ⟨_, law_true a hok, rfl⟩) hval hW hsz trivial

theorem over : Rows.fnExactIsContainerRow.holds Try.pinned (OpenSpec.ofChange Rows.fnExactIsContainerSpec) :=
  OpenClaim.holds_of_wide 3 Try.f3 rfl rfl rfl rfl rfl rfl rfl ⟨rfl, rfl, rfl, rfl, rfl⟩ rfl rfl rfl rfl rfl (by kernel_rfl) Try.func3 (by kernel_rfl)
    (of_decide_eq_true (by kernel_rfl)) (by unfold Func.isWrapper; first | (rw [if_pos (by decide +kernel)]; kernel_rfl) | (rw [if_neg (by decide +kernel)]; exact ⟨rfl, rfl⟩))
    (fun os started H enc _ => lifted os started H enc)
end Go.Proofs.Ytgniaohdiabgoaa.SxFnExactIsContainer
namespace Go.Proofs.Ytgniaohdiabgoaa
theorem fnExactIsContainer_holds : Rows.FnExactIsContainerSaid := SxFnExactIsContainer.over
end Go.Proofs.Ytgniaohdiabgoaa
