/- FnExactAgreeOutside returns true for every input, and each input reads as it did. No condition. -/
import Derived.Test.YtomfcmpdjfdnhaaRows
import Derived.Test.YtomfcmpdjfdnhaaPuFnExactAgreeOutside
import Derived.WalkKit
import Derived.ProofKit
import Derived.ShutString
import Derived.SizedLaws
set_option linter.unusedVariables false
set_option maxRecDepth 100000
set_option maxHeartbeats 4000000
namespace Go.Proofs.Ytomfcmpdjfdnhaa.SxFnExactAgreeOutside
open Go Go.Sh Go.RowKit
def y3 : Ty := .int .i64
def y4 : Ty := .bool
def y22 : Ty := .slice 3 y3
def y24 : Ty := .pair y3 (.pair y3 y3)
def y26 : Ty := .pair y3 (.pair y22 y24)
def y29 : Ty := .pair y3 (.pair y3 y3)
def y31 : Ty := .pair y3 (.pair y22 y29)
def y38 : Ty := .pair y24 (.pair y3 y26)
def y44 : Ty := .pair y29 (.pair y3 y31)
def y61 : Ty := .slice 44 y44
def y79 : Ty := .slice 38 y38
def y80 : Ty := .slice 24 y24
def y82 : Ty := .pair y79 (.pair y3 (.pair y3 y80))
def y85 : Ty := .slice 29 y29
def y87 : Ty := .pair y61 (.pair y3 (.pair y3 y85))
def tab : List (TypeId × TI) := [(3, { size := 1, bytes := 8, agg := false, ty := some y3 }),
  (4, { size := 1, bytes := 1, agg := false, ty := some y4 }),
  (22, { size := 1, bytes := 24, agg := false, ty := some y22, elem := some 3 }),
  (24, { size := 3, bytes := 24, agg := true, ty := some y24, fields := [(0, 3), (1, 3), (2, 3)] }),
  (26, { size := 5, bytes := 56, agg := true, ty := some y26, fields := [(0, 3), (1, 22), (2, 24)] }),
  (29, { size := 3, bytes := 24, agg := true, ty := some y29, fields := [(0, 3), (1, 3), (2, 3)], eq := true }),
  (31, { size := 5, bytes := 56, agg := true, ty := some y31, fields := [(0, 3), (1, 22), (2, 29)] }),
  (38, { size := 9, bytes := 88, agg := true, ty := some y38, fields := [(0, 24), (3, 3), (4, 26)] }),
  (44, { size := 9, bytes := 88, agg := true, ty := some y44, fields := [(0, 29), (3, 3), (4, 31)] }),
  (61, { size := 1, bytes := 24, agg := false, ty := some y61, elem := some 44 }),
  (79, { size := 1, bytes := 24, agg := false, ty := some y79, elem := some 38 }),
  (80, { size := 1, bytes := 24, agg := false, ty := some y80, elem := some 24 }),
  (82, { size := 4, bytes := 64, agg := true, ty := some y82, fields := [(0, 79), (1, 3), (2, 3), (3, 80)] }),
  (85, { size := 1, bytes := 24, agg := false, ty := some y85, elem := some 29 }),
  (87, { size := 4, bytes := 64, agg := true, ty := some y87, fields := [(0, 61), (1, 3), (2, 3), (3, 85)] })]
def look : List (TypeId × TI) → TypeId → Option TI
  | [], _ => none
  | (k, i) :: r, t => if Nat.beq t k = true then some i else look r t
theorem look_ok {P : Program} : ∀ {l : List (TypeId × TI)}, (l.all fun p => tiOk P p.1 p.2) = true → ∀ t i, look l t = some i → tiOk P t i = true
  | [], _, t, i, h => by simp [look] at h
  | (k, j) :: r, h0, t, i, h => by
    simp only [List.all_cons, Bool.and_eq_true] at h0
    simp only [look] at h
    split at h
    · rename_i hk
      simp only [Option.some.injEq] at h
      have := Nat.eq_of_beq_eq_true hk
      subst this; subst h; exact h0.1
    · exact look_ok h0.2 t i h
theorem look_eq {P : Program} : ∀ {l : List (TypeId × TI)}, (l.all fun p => !p.2.eq || eqTop P p.1 p.2.ty) = true → ∀ t i, look l t = some i → i.eq = true → ∀ ty, i.ty = some ty → EqLaw P t ty.zero
  | [], _, t, i, h => by simp [look] at h
  | (k, j) :: r, h0, t, i, h => by
    simp only [List.all_cons, Bool.and_eq_true, Bool.or_eq_true, Bool.not_eq_true'] at h0
    simp only [look] at h
    split at h
    · rename_i hk
      simp only [Option.some.injEq] at h
      have := Nat.eq_of_beq_eq_true hk
      subst this; subst h
      intro he
      exact eqLaw_of (h0.1.resolve_left (by simp [he]))
    · exact look_eq h0.2 t i h
def same : List Nat → List Nat → Bool
  | [], [] => true
  | a :: x, b :: y => Nat.beq a b && same x y
  | _, _ => false
theorem same_eq : ∀ {x y : List Nat}, same x y = true → x = y
  | [], [], _ => rfl
  | a :: x, b :: y, h => by
    simp only [same, Bool.and_eq_true] at h
    rw [Nat.eq_of_beq_eq_true h.1, same_eq h.2]
  | [], _ :: _, h => by simp [same] at h
  | _ :: _, [], h => by simp [same] at h
def fns : List (FuncId × List FuncId × Entry) → FuncId → List FuncId → Option Entry
  | [], _, _ => none
  | (k, c, e) :: r, f, fs => if (Nat.beq f k && same fs c) = true then some e else fns r f fs
theorem fns_nil (P : Program) : ∀ f fs en, fns [] f fs = some en → Contract P f en.sig en.F := fun f fs en h => by simp [fns] at h
theorem fns_cons {P : Program} {k : FuncId} {c : List FuncId} {e : Entry} {r : List (FuncId × List FuncId × Entry)} (hk : Contract P k e.sig e.F) (hr : ∀ f fs en, fns r f fs = some en → Contract P f en.sig en.F) : ∀ f fs en, fns ((k, c, e) :: r) f fs = some en → Contract P f en.sig en.F := fun f fs en h => by
  simp only [fns] at h
  split at h
  · rename_i hf
    simp only [Bool.and_eq_true] at hf
    simp only [Option.some.injEq] at h
    have := Nat.eq_of_beq_eq_true hf.1
    subst this; subst h; exact hk
  · exact hr f fs en h

theorem tab_ti : ∀ t i, look tab t = some i → tiOk Try.prog t i = true := look_ok (by kernel_rfl)
theorem tab_eq : ∀ t i, look tab t = some i → i.eq = true → ∀ ty, i.ty = some ty → EqLaw Try.prog t ty.zero := look_eq (by kernel_rfl)
theorem mixed : Try.prog.follows .mixedOrders = true := by kernel_rfl
def s_laws_szIntS : Sig := { params := [.val false y22, .val false y3], res := [.val false y3] }
noncomputable def e_laws_szIntS : Entry := ⟨s_laws_szIntS, fun a => D.laws_szIntS a.1 a.2⟩
noncomputable def v_laws_szIntS : Env := { ti := look tab, Γ := fns [], loop := fun _ => none, cut := fun _ => none, deep := fun _ => false }
theorem c_laws_szIntS : Contract Try.prog 81 e_laws_szIntS.sig e_laws_szIntS.F :=
  den_is (E := v_laws_szIntS) ⟨tab_ti, tab_eq⟩ (fns_nil _) mixed Try.func81 (by kernel_rfl) (by kernel_rfl) (fun x => by kernel_rfl)

def s_laws_szResource : Sig := { params := [.val true y26, .val false y3], res := [.val false y3] }
noncomputable def e_laws_szResource : Entry := ⟨s_laws_szResource, fun a => D.laws_szResource a.1 a.2⟩
noncomputable def v_laws_szResource : Env := { ti := look tab, Γ := fns [(81, [], e_laws_szIntS)], loop := fun _ => none, cut := fun _ => none, deep := fun _ => false }
theorem c_laws_szResource : Contract Try.prog 14 e_laws_szResource.sig e_laws_szResource.F :=
  den_is (E := v_laws_szResource) ⟨tab_ti, tab_eq⟩ (fns_cons c_laws_szIntS (fns_nil _)) mixed Try.func14 (by kernel_rfl) (by kernel_rfl) (fun x => by kernel_rfl)

def s_laws_szCapture : Sig := { params := [.val true y38, .val false y3], res := [.val false y3] }
noncomputable def e_laws_szCapture : Entry := ⟨s_laws_szCapture, fun a => D.laws_szCapture a.1 a.2⟩
noncomputable def v_laws_szCapture : Env := { ti := look tab, Γ := fns [(14, [], e_laws_szResource)], loop := fun _ => none, cut := fun _ => none, deep := fun _ => false }
theorem c_laws_szCapture : Contract Try.prog 21 e_laws_szCapture.sig e_laws_szCapture.F :=
  den_is (E := v_laws_szCapture) ⟨tab_ti, tab_eq⟩ (fns_cons c_laws_szResource (fns_nil _)) mixed Try.func21 (by kernel_rfl) (by kernel_rfl) (fun x => by kernel_rfl)

def s_laws_szCaptureS : Sig := { params := [.val false y79, .val false y3], res := [.val false y3] }
noncomputable def e_laws_szCaptureS : Entry := ⟨s_laws_szCaptureS, fun a => D.laws_szCaptureS a.1 a.2⟩
noncomputable def v_laws_szCaptureS : Env := { ti := look tab, Γ := fns [(21, [], e_laws_szCapture)], loop := fun b => match b with | 0 => some [.slot 1 (.int .i64), .slot 5 (.int .i64)] | _ => none, cut := fun _ => none, deep := fun _ => false }
theorem c_laws_szCaptureS : Contract Try.prog 70 e_laws_szCaptureS.sig e_laws_szCaptureS.F :=
  den_is (E := v_laws_szCaptureS) ⟨tab_ti, tab_eq⟩ (fns_cons c_laws_szCapture (fns_nil _)) mixed Try.func70 (by kernel_rfl) (by kernel_rfl) (fun x => by kernel_rfl)

def s_laws_szAddressS : Sig := { params := [.val false y80, .val false y3], res := [.val false y3] }
noncomputable def e_laws_szAddressS : Entry := ⟨s_laws_szAddressS, fun a => D.laws_szAddressS a.1 a.2⟩
noncomputable def v_laws_szAddressS : Env := { ti := look tab, Γ := fns [], loop := fun _ => none, cut := fun _ => none, deep := fun _ => false }
theorem c_laws_szAddressS : Contract Try.prog 74 e_laws_szAddressS.sig e_laws_szAddressS.F :=
  den_is (E := v_laws_szAddressS) ⟨tab_ti, tab_eq⟩ (fns_nil _) mixed Try.func74 (by kernel_rfl) (by kernel_rfl) (fun x => by kernel_rfl)

def s_laws_szEdition : Sig := { params := [.val true y82, .val false y3], res := [.val false y3] }
noncomputable def e_laws_szEdition : Entry := ⟨s_laws_szEdition, fun a => D.laws_szEdition a.1 a.2⟩
noncomputable def v_laws_szEdition : Env := { ti := look tab, Γ := fns [(70, [], e_laws_szCaptureS), (74, [], e_laws_szAddressS)], loop := fun _ => none, cut := fun _ => none, deep := fun _ => false }
theorem c_laws_szEdition : Contract Try.prog 51 e_laws_szEdition.sig e_laws_szEdition.F :=
  den_is (E := v_laws_szEdition) ⟨tab_ti, tab_eq⟩ (fns_cons c_laws_szCaptureS (fns_cons c_laws_szAddressS (fns_nil _))) mixed Try.func51 (by kernel_rfl) (by kernel_rfl) (fun x => by kernel_rfl)

def s_laws_toAddress : Sig := { params := [.val true y24], res := [.val true y29] }
noncomputable def e_laws_toAddress : Entry := ⟨s_laws_toAddress, fun a => D.laws_toAddress a⟩
noncomputable def v_laws_toAddress : Env := { ti := look tab, Γ := fns [], loop := fun _ => none, cut := fun _ => none, deep := fun _ => false }
theorem c_laws_toAddress : Contract Try.prog 83 e_laws_toAddress.sig e_laws_toAddress.F :=
  den_is (E := v_laws_toAddress) ⟨tab_ti, tab_eq⟩ (fns_nil _) mixed Try.func83 (by kernel_rfl) (by kernel_rfl) (fun x => by kernel_rfl)

def s_laws_toIntS : Sig := { params := [.val false y22], res := [.row 3 y3 false] }
noncomputable def e_laws_toIntS : Entry := ⟨s_laws_toIntS, fun a => D.laws_toIntS a⟩
noncomputable def v_laws_toIntS : Env := { ti := look tab, Γ := fns [], loop := fun b => match b with | 0 => some [.slot 4 (.int .i64), .vec 3 3 y3 false] | _ => none, cut := fun _ => none, deep := fun _ => false }
theorem c_laws_toIntS : Contract Try.prog 17 e_laws_toIntS.sig e_laws_toIntS.F :=
  den_is (E := v_laws_toIntS) ⟨tab_ti, tab_eq⟩ (fns_nil _) mixed Try.func17 (by kernel_rfl) (by kernel_rfl) (fun x => by kernel_rfl)

def s_laws_toResource : Sig := { params := [.val true y26], res := [.val true y31] }
noncomputable def e_laws_toResource : Entry := ⟨s_laws_toResource, fun a => D.laws_toResource a⟩
noncomputable def v_laws_toResource : Env := { ti := look tab, Γ := fns [(17, [], e_laws_toIntS), (83, [], e_laws_toAddress)], loop := fun _ => none, cut := fun _ => none, deep := fun _ => false }
theorem c_laws_toResource : Contract Try.prog 16 e_laws_toResource.sig e_laws_toResource.F :=
  den_is (E := v_laws_toResource) ⟨tab_ti, tab_eq⟩ (fns_cons c_laws_toIntS (fns_cons c_laws_toAddress (fns_nil _))) mixed Try.func16 (by kernel_rfl) (by kernel_rfl) (fun x => by kernel_rfl)

def s_laws_toCapture : Sig := { params := [.val true y38], res := [.val true y44] }
noncomputable def e_laws_toCapture : Entry := ⟨s_laws_toCapture, fun a => D.laws_toCapture a⟩
noncomputable def v_laws_toCapture : Env := { ti := look tab, Γ := fns [(83, [], e_laws_toAddress), (16, [], e_laws_toResource)], loop := fun _ => none, cut := fun _ => none, deep := fun _ => false }
theorem c_laws_toCapture : Contract Try.prog 24 e_laws_toCapture.sig e_laws_toCapture.F :=
  den_is (E := v_laws_toCapture) ⟨tab_ti, tab_eq⟩ (fns_cons c_laws_toAddress (fns_cons c_laws_toResource (fns_nil _))) mixed Try.func24 (by kernel_rfl) (by kernel_rfl) (fun x => by kernel_rfl)

def s_laws_toCaptureS : Sig := { params := [.val false y79], res := [.row 44 y44 false] }
noncomputable def e_laws_toCaptureS : Entry := ⟨s_laws_toCaptureS, fun a => D.laws_toCaptureS a⟩
noncomputable def v_laws_toCaptureS : Env := { ti := look tab, Γ := fns [(24, [], e_laws_toCapture)], loop := fun b => match b with | 0 => some [.slot 4 (.int .i64), .vec 3 44 y44 false] | _ => none, cut := fun _ => none, deep := fun _ => false }
theorem c_laws_toCaptureS : Contract Try.prog 72 e_laws_toCaptureS.sig e_laws_toCaptureS.F :=
  den_is (E := v_laws_toCaptureS) ⟨tab_ti, tab_eq⟩ (fns_cons c_laws_toCapture (fns_nil _)) mixed Try.func72 (by kernel_rfl) (by kernel_rfl) (fun x => by kernel_rfl)

def s_laws_toAddressS : Sig := { params := [.val false y80], res := [.row 29 y29 false] }
noncomputable def e_laws_toAddressS : Entry := ⟨s_laws_toAddressS, fun a => D.laws_toAddressS a⟩
noncomputable def v_laws_toAddressS : Env := { ti := look tab, Γ := fns [(83, [], e_laws_toAddress)], loop := fun b => match b with | 0 => some [.slot 4 (.int .i64), .vec 3 29 y29 false] | _ => none, cut := fun _ => none, deep := fun _ => false }
theorem c_laws_toAddressS : Contract Try.prog 76 e_laws_toAddressS.sig e_laws_toAddressS.F :=
  den_is (E := v_laws_toAddressS) ⟨tab_ti, tab_eq⟩ (fns_cons c_laws_toAddress (fns_nil _)) mixed Try.func76 (by kernel_rfl) (by kernel_rfl) (fun x => by kernel_rfl)

def s_laws_toEdition : Sig := { params := [.val true y82], res := [.val true y87] }
noncomputable def e_laws_toEdition : Entry := ⟨s_laws_toEdition, fun a => D.laws_toEdition a⟩
noncomputable def v_laws_toEdition : Env := { ti := look tab, Γ := fns [(72, [], e_laws_toCaptureS), (76, [], e_laws_toAddressS)], loop := fun _ => none, cut := fun _ => none, deep := fun _ => false }
theorem c_laws_toEdition : Contract Try.prog 53 e_laws_toEdition.sig e_laws_toEdition.F :=
  den_is (E := v_laws_toEdition) ⟨tab_ti, tab_eq⟩ (fns_cons c_laws_toCaptureS (fns_cons c_laws_toAddressS (fns_nil _))) mixed Try.func53 (by kernel_rfl) (by kernel_rfl) (fun x => by kernel_rfl)

def s_spec_l9Has : Sig := { params := [.val false y85, .val true y29], res := [.val false y4] }
noncomputable def e_spec_l9Has : Entry := ⟨s_spec_l9Has, fun a => D.spec_l9Has a.1 a.2⟩
noncomputable def v_spec_l9Has : Env := { ti := look tab, Γ := fns [], loop := fun b => match b with | 0 => some [.slot 5 (.int .i64)] | _ => none, cut := fun _ => none, deep := fun _ => false }
theorem c_spec_l9Has : Contract Try.prog 138 e_spec_l9Has.sig e_spec_l9Has.F :=
  den_is (E := v_spec_l9Has) ⟨tab_ti, tab_eq⟩ (fns_nil _) mixed Try.func138 (by kernel_rfl) (by kernel_rfl) (fun x => by kernel_rfl)

def s_spec_l5Copy : Sig := { params := [.val true y31], res := [.val true y31] }
noncomputable def e_spec_l5Copy : Entry := ⟨s_spec_l5Copy, fun a => D.spec_l5Copy a⟩
noncomputable def v_spec_l5Copy : Env := { ti := look tab, Γ := fns [], loop := fun _ => none, cut := fun _ => none, deep := fun _ => false }
theorem c_spec_l5Copy : Contract Try.prog 186 e_spec_l5Copy.sig e_spec_l5Copy.F :=
  den_is (E := v_spec_l5Copy) ⟨tab_ti, tab_eq⟩ (fns_nil _) mixed Try.func186 (by kernel_rfl) (by kernel_rfl) (fun x => by kernel_rfl)

def s_spec_l15Copy : Sig := { params := [.val false y61], res := [.row 44 y44 false] }
noncomputable def e_spec_l15Copy : Entry := ⟨s_spec_l15Copy, fun a => D.spec_l15Copy a⟩
noncomputable def v_spec_l15Copy : Env := { ti := look tab, Γ := fns [(186, [], e_spec_l5Copy)], loop := fun b => match b with | 0 => some [.slot 3 (.own 44 y44 false), .slot 4 (.int .i64)] | _ => none, cut := fun _ => none, deep := fun _ => false }
theorem c_spec_l15Copy : Contract Try.prog 167 e_spec_l15Copy.sig e_spec_l15Copy.F :=
  den_is (E := v_spec_l15Copy) ⟨tab_ti, tab_eq⟩ (fns_cons c_spec_l5Copy (fns_nil _)) mixed Try.func167 (by kernel_rfl) (by kernel_rfl) (fun x => by kernel_rfl)

def s_spec_l23Without : Sig := { params := [.val false y61, .val false y85], res := [.row 44 y44 false] }
noncomputable def e_spec_l23Without : Entry := ⟨s_spec_l23Without, fun a => D.spec_l23Without a.1 a.2⟩
noncomputable def v_spec_l23Without : Env := { ti := look tab, Γ := fns [(138, [], e_spec_l9Has), (167, [], e_spec_l15Copy)], loop := fun b => match b with | 0 => some [.slot 5 (.own 44 y44 false), .slot 6 (.int .i64)] | _ => none, cut := fun _ => none, deep := fun _ => false }
theorem c_spec_l23Without : Contract Try.prog 135 e_spec_l23Without.sig e_spec_l23Without.F :=
  den_is (E := v_spec_l23Without) ⟨tab_ti, tab_eq⟩ (fns_cons c_spec_l9Has (fns_cons c_spec_l15Copy (fns_nil _))) mixed Try.func135 (by kernel_rfl) (by kernel_rfl) (fun x => by kernel_rfl)

def s_spec_EqualInts : Sig := { params := [.val false y22, .val false y22], res := [.val false y4] }
noncomputable def e_spec_EqualInts : Entry := ⟨s_spec_EqualInts, fun a => D.spec_EqualInts a.1 a.2⟩
noncomputable def v_spec_EqualInts : Env := { ti := look tab, Γ := fns [], loop := fun b => match b with | 0 => some [.slot 5 (.int .i64)] | _ => none, cut := fun _ => none, deep := fun _ => false }
theorem c_spec_EqualInts : Contract Try.prog 188 e_spec_EqualInts.sig e_spec_EqualInts.F :=
  den_is (E := v_spec_EqualInts) ⟨tab_ti, tab_eq⟩ (fns_nil _) mixed Try.func188 (by kernel_rfl) (by kernel_rfl) (fun x => by kernel_rfl)

def s_spec_EqualResources : Sig := { params := [.val true y31, .val true y31], res := [.val false y4] }
noncomputable def e_spec_EqualResources : Entry := ⟨s_spec_EqualResources, fun a => D.spec_EqualResources a.1 a.2⟩
noncomputable def v_spec_EqualResources : Env := { ti := look tab, Γ := fns [(188, [], e_spec_EqualInts)], loop := fun _ => none, cut := fun _ => none, deep := fun _ => false }
theorem c_spec_EqualResources : Contract Try.prog 183 e_spec_EqualResources.sig e_spec_EqualResources.F :=
  den_is (E := v_spec_EqualResources) ⟨tab_ti, tab_eq⟩ (fns_cons c_spec_EqualInts (fns_nil _)) mixed Try.func183 (by kernel_rfl) (by kernel_rfl) (fun x => by kernel_rfl)

def s_spec_l15Same : Sig := { params := [.val true y44, .val true y44], res := [.val false y4] }
noncomputable def e_spec_l15Same : Entry := ⟨s_spec_l15Same, fun a => D.spec_l15Same a.1 a.2⟩
noncomputable def v_spec_l15Same : Env := { ti := look tab, Γ := fns [(183, [], e_spec_EqualResources)], loop := fun _ => none, cut := fun _ => none, deep := fun _ => false }
theorem c_spec_l15Same : Contract Try.prog 163 e_spec_l15Same.sig e_spec_l15Same.F :=
  den_is (E := v_spec_l15Same) ⟨tab_ti, tab_eq⟩ (fns_cons c_spec_EqualResources (fns_nil _)) mixed Try.func163 (by kernel_rfl) (by kernel_rfl) (fun x => by kernel_rfl)

def s_spec_EqualCaptures : Sig := { params := [.val false y61, .val false y61], res := [.val false y4] }
noncomputable def e_spec_EqualCaptures : Entry := ⟨s_spec_EqualCaptures, fun a => D.spec_EqualCaptures a.1 a.2⟩
noncomputable def v_spec_EqualCaptures : Env := { ti := look tab, Γ := fns [(163, [], e_spec_l15Same)], loop := fun b => match b with | 0 => some [.slot 5 (.int .i64)] | _ => none, cut := fun _ => none, deep := fun _ => false }
theorem c_spec_EqualCaptures : Contract Try.prog 115 e_spec_EqualCaptures.sig e_spec_EqualCaptures.F :=
  den_is (E := v_spec_EqualCaptures) ⟨tab_ti, tab_eq⟩ (fns_cons c_spec_l15Same (fns_nil _)) mixed Try.func115 (by kernel_rfl) (by kernel_rfl) (fun x => by kernel_rfl)

def s_spec_AgreeOutside : Sig := { params := [.val true y87, .val true y87, .val false y85], res := [.val false y4] }
noncomputable def e_spec_AgreeOutside : Entry := ⟨s_spec_AgreeOutside, fun a => D.spec_AgreeOutside a.1 a.2.1 a.2.2⟩
noncomputable def v_spec_AgreeOutside : Env := { ti := look tab, Γ := fns [(135, [], e_spec_l23Without), (115, [], e_spec_EqualCaptures)], loop := fun _ => none, cut := fun _ => none, deep := fun _ => false }
theorem c_spec_AgreeOutside : Contract Try.prog 75 e_spec_AgreeOutside.sig e_spec_AgreeOutside.F :=
  den_is (E := v_spec_AgreeOutside) ⟨tab_ti, tab_eq⟩ (fns_cons c_spec_l23Without (fns_cons c_spec_EqualCaptures (fns_nil _))) mixed Try.func75 (by kernel_rfl) (by kernel_rfl) (fun x => by kernel_rfl)

def s_slices_Index_Address : Sig := { params := [.val false y85, .val true y29], res := [.val false y3] }
noncomputable def e_slices_Index_Address : Entry := ⟨s_slices_Index_Address, fun a => D.slices_Index_Address a.1 a.2⟩
noncomputable def v_slices_Index_Address : Env := { ti := look tab, Γ := fns [], loop := fun b => match b with | 0 => some [.slot 8 (.int .i64)] | _ => none, cut := fun _ => none, deep := fun _ => false }
theorem c_slices_Index_Address : Contract Try.prog 174 e_slices_Index_Address.sig e_slices_Index_Address.F :=
  den_is (E := v_slices_Index_Address) ⟨tab_ti, tab_eq⟩ (fns_nil _) mixed Try.func174 (by kernel_rfl) (by kernel_rfl) (fun x => by kernel_rfl)

def s_slices_Contains_Address : Sig := { params := [.val false y85, .val true y29], res := [.val false y4] }
noncomputable def e_slices_Contains_Address : Entry := ⟨s_slices_Contains_Address, fun a => D.slices_Contains_Address a.1 a.2⟩
noncomputable def v_slices_Contains_Address : Env := { ti := look tab, Γ := fns [(174, [], e_slices_Index_Address)], loop := fun _ => none, cut := fun _ => none, deep := fun _ => false }
theorem c_slices_Contains_Address : Contract Try.prog 142 e_slices_Contains_Address.sig e_slices_Contains_Address.F :=
  den_is (E := v_slices_Contains_Address) ⟨tab_ti, tab_eq⟩ (fns_cons c_slices_Index_Address (fns_nil _)) mixed Try.func142 (by kernel_rfl) (by kernel_rfl) (fun x => by kernel_rfl)

def s_impl_outside : Sig := { params := [.val false y61, .val false y85], res := [.row 44 y44 false] }
noncomputable def e_impl_outside : Entry := ⟨s_impl_outside, fun a => D.impl_outside a.1 a.2⟩
noncomputable def v_impl_outside : Env := { ti := look tab, Γ := fns [(142, [], e_slices_Contains_Address)], loop := fun b => match b with | 0 => some [.slot 5 (.own 44 y44 false), .slot 10 (.int .i64)] | _ => none, cut := fun _ => none, deep := fun _ => false }
theorem c_impl_outside : Contract Try.prog 136 e_impl_outside.sig e_impl_outside.F :=
  den_is (E := v_impl_outside) ⟨tab_ti, tab_eq⟩ (fns_cons c_slices_Contains_Address (fns_nil _)) mixed Try.func136 (by kernel_rfl) (by kernel_rfl) (fun x => by kernel_rfl)

def s_slices_Equal_int : Sig := { params := [.val false y22, .val false y22], res := [.val false y4] }
noncomputable def e_slices_Equal_int : Entry := ⟨s_slices_Equal_int, fun a => D.slices_Equal_int a.1 a.2⟩
noncomputable def v_slices_Equal_int : Env := { ti := look tab, Γ := fns [], loop := fun b => match b with | 0 => some [.slot 13 (.int .i64)] | _ => none, cut := fun _ => none, deep := fun _ => false }
theorem c_slices_Equal_int : Contract Try.prog 180 e_slices_Equal_int.sig e_slices_Equal_int.F :=
  den_is (E := v_slices_Equal_int) ⟨tab_ti, tab_eq⟩ (fns_nil _) mixed Try.func180 (by kernel_rfl) (by kernel_rfl) (fun x => by kernel_rfl)

def s_impl_EqualResources : Sig := { params := [.val true y31, .val true y31], res := [.val false y4] }
noncomputable def e_impl_EqualResources : Entry := ⟨s_impl_EqualResources, fun a => D.impl_EqualResources a.1 a.2⟩
noncomputable def v_impl_EqualResources : Env := { ti := look tab, Γ := fns [(180, [], e_slices_Equal_int)], loop := fun _ => none, cut := fun _ => none, deep := fun _ => false }
theorem c_impl_EqualResources : Contract Try.prog 158 e_impl_EqualResources.sig e_impl_EqualResources.F :=
  den_is (E := v_impl_EqualResources) ⟨tab_ti, tab_eq⟩ (fns_cons c_slices_Equal_int (fns_nil _)) mixed Try.func158 (by kernel_rfl) (by kernel_rfl) (fun x => by kernel_rfl)

def s_impl_sameCapture : Sig := { params := [.val true y44, .val true y44], res := [.val false y4] }
noncomputable def e_impl_sameCapture : Entry := ⟨s_impl_sameCapture, fun a => D.impl_sameCapture a.1 a.2⟩
noncomputable def v_impl_sameCapture : Env := { ti := look tab, Γ := fns [(158, [], e_impl_EqualResources)], loop := fun _ => none, cut := fun _ => none, deep := fun _ => false }
theorem c_impl_sameCapture : Contract Try.prog 109 e_impl_sameCapture.sig e_impl_sameCapture.F :=
  den_is (E := v_impl_sameCapture) ⟨tab_ti, tab_eq⟩ (fns_cons c_impl_EqualResources (fns_nil _)) mixed Try.func109 (by kernel_rfl) (by kernel_rfl) (fun x => by kernel_rfl)

def s_slices_EqualFunc_Capture_impl_sameCapture : Sig := { params := [.val false y61, .val false y61, .fn 109 []], res := [.val false y4] }
noncomputable def e_slices_EqualFunc_Capture_impl_sameCapture : Entry := ⟨s_slices_EqualFunc_Capture_impl_sameCapture, fun a => D.slices_EqualFunc_Capture_impl_sameCapture a.1 a.2.1⟩
noncomputable def v_slices_EqualFunc_Capture_impl_sameCapture : Env := { ti := look tab, Γ := fns [(109, [], e_impl_sameCapture)], loop := fun b => match b with | 0 => some [.slot 17 (.int .i64)] | _ => none, cut := fun _ => none, deep := fun _ => false }
theorem c_slices_EqualFunc_Capture_impl_sameCapture : Contract Try.prog 108 e_slices_EqualFunc_Capture_impl_sameCapture.sig e_slices_EqualFunc_Capture_impl_sameCapture.F :=
  den_is (E := v_slices_EqualFunc_Capture_impl_sameCapture) ⟨tab_ti, tab_eq⟩ (fns_cons c_impl_sameCapture (fns_nil _)) mixed Try.func108 (by kernel_rfl) (by kernel_rfl) (fun x => by kernel_rfl)

def s_impl_EqualCaptures : Sig := { params := [.val false y61, .val false y61], res := [.val false y4] }
noncomputable def e_impl_EqualCaptures : Entry := ⟨s_impl_EqualCaptures, fun a => D.impl_EqualCaptures a.1 a.2⟩
noncomputable def v_impl_EqualCaptures : Env := { ti := look tab, Γ := fns [(108, [109], e_slices_EqualFunc_Capture_impl_sameCapture)], loop := fun _ => none, cut := fun _ => none, deep := fun _ => false }
theorem c_impl_EqualCaptures : Contract Try.prog 41 e_impl_EqualCaptures.sig e_impl_EqualCaptures.F :=
  den_is (E := v_impl_EqualCaptures) ⟨tab_ti, tab_eq⟩ (fns_cons c_slices_EqualFunc_Capture_impl_sameCapture (fns_nil _)) mixed Try.func41 (by kernel_rfl) (by kernel_rfl) (fun x => by kernel_rfl)

def s_impl_AgreeOutside : Sig := { params := [.val true y87, .val true y87, .val false y85], res := [.val false y4] }
noncomputable def e_impl_AgreeOutside : Entry := ⟨s_impl_AgreeOutside, fun a => D.impl_AgreeOutside a.1 a.2.1 a.2.2⟩
noncomputable def v_impl_AgreeOutside : Env := { ti := look tab, Γ := fns [(136, [], e_impl_outside), (41, [], e_impl_EqualCaptures)], loop := fun _ => none, cut := fun _ => none, deep := fun _ => false }
theorem c_impl_AgreeOutside : Contract Try.prog 77 e_impl_AgreeOutside.sig e_impl_AgreeOutside.F :=
  den_is (E := v_impl_AgreeOutside) ⟨tab_ti, tab_eq⟩ (fns_cons c_impl_outside (fns_cons c_impl_EqualCaptures (fns_nil _))) mixed Try.func77 (by kernel_rfl) (by kernel_rfl) (fun x => by kernel_rfl)

def s_laws_eqAddress : Sig := { params := [.val true y29, .val true y29], res := [.val false y4] }
noncomputable def e_laws_eqAddress : Entry := ⟨s_laws_eqAddress, fun a => D.laws_eqAddress a.1 a.2⟩
noncomputable def v_laws_eqAddress : Env := { ti := look tab, Γ := fns [], loop := fun _ => none, cut := fun _ => none, deep := fun _ => false }
theorem c_laws_eqAddress : Contract Try.prog 84 e_laws_eqAddress.sig e_laws_eqAddress.F :=
  den_is (E := v_laws_eqAddress) ⟨tab_ti, tab_eq⟩ (fns_nil _) mixed Try.func84 (by kernel_rfl) (by kernel_rfl) (fun x => by kernel_rfl)

def s_laws_eqIntS : Sig := { params := [.val false y22, .val false y22], res := [.val false y4] }
noncomputable def e_laws_eqIntS : Entry := ⟨s_laws_eqIntS, fun a => D.laws_eqIntS a.1 a.2⟩
noncomputable def v_laws_eqIntS : Env := { ti := look tab, Γ := fns [], loop := fun b => match b with | 0 => some [.slot 5 (.int .i64)] | _ => none, cut := fun _ => none, deep := fun _ => false }
theorem c_laws_eqIntS : Contract Try.prog 20 e_laws_eqIntS.sig e_laws_eqIntS.F :=
  den_is (E := v_laws_eqIntS) ⟨tab_ti, tab_eq⟩ (fns_nil _) mixed Try.func20 (by kernel_rfl) (by kernel_rfl) (fun x => by kernel_rfl)

def s_laws_eqResource : Sig := { params := [.val true y31, .val true y31], res := [.val false y4] }
noncomputable def e_laws_eqResource : Entry := ⟨s_laws_eqResource, fun a => D.laws_eqResource a.1 a.2⟩
noncomputable def v_laws_eqResource : Env := { ti := look tab, Γ := fns [(20, [], e_laws_eqIntS), (84, [], e_laws_eqAddress)], loop := fun _ => none, cut := fun _ => none, deep := fun _ => false }
theorem c_laws_eqResource : Contract Try.prog 19 e_laws_eqResource.sig e_laws_eqResource.F :=
  den_is (E := v_laws_eqResource) ⟨tab_ti, tab_eq⟩ (fns_cons c_laws_eqIntS (fns_cons c_laws_eqAddress (fns_nil _))) mixed Try.func19 (by kernel_rfl) (by kernel_rfl) (fun x => by kernel_rfl)

def s_laws_eqCapture : Sig := { params := [.val true y44, .val true y44], res := [.val false y4] }
noncomputable def e_laws_eqCapture : Entry := ⟨s_laws_eqCapture, fun a => D.laws_eqCapture a.1 a.2⟩
noncomputable def v_laws_eqCapture : Env := { ti := look tab, Γ := fns [(84, [], e_laws_eqAddress), (19, [], e_laws_eqResource)], loop := fun _ => none, cut := fun _ => none, deep := fun _ => false }
theorem c_laws_eqCapture : Contract Try.prog 27 e_laws_eqCapture.sig e_laws_eqCapture.F :=
  den_is (E := v_laws_eqCapture) ⟨tab_ti, tab_eq⟩ (fns_cons c_laws_eqAddress (fns_cons c_laws_eqResource (fns_nil _))) mixed Try.func27 (by kernel_rfl) (by kernel_rfl) (fun x => by kernel_rfl)

def s_laws_eqCaptureS : Sig := { params := [.val false y61, .val false y61], res := [.val false y4] }
noncomputable def e_laws_eqCaptureS : Entry := ⟨s_laws_eqCaptureS, fun a => D.laws_eqCaptureS a.1 a.2⟩
noncomputable def v_laws_eqCaptureS : Env := { ti := look tab, Γ := fns [(27, [], e_laws_eqCapture)], loop := fun b => match b with | 0 => some [.slot 5 (.int .i64)] | _ => none, cut := fun _ => none, deep := fun _ => false }
theorem c_laws_eqCaptureS : Contract Try.prog 73 e_laws_eqCaptureS.sig e_laws_eqCaptureS.F :=
  den_is (E := v_laws_eqCaptureS) ⟨tab_ti, tab_eq⟩ (fns_cons c_laws_eqCapture (fns_nil _)) mixed Try.func73 (by kernel_rfl) (by kernel_rfl) (fun x => by kernel_rfl)

def s_laws_eqAddressS : Sig := { params := [.val false y85, .val false y85], res := [.val false y4] }
noncomputable def e_laws_eqAddressS : Entry := ⟨s_laws_eqAddressS, fun a => D.laws_eqAddressS a.1 a.2⟩
noncomputable def v_laws_eqAddressS : Env := { ti := look tab, Γ := fns [(84, [], e_laws_eqAddress)], loop := fun b => match b with | 0 => some [.slot 5 (.int .i64)] | _ => none, cut := fun _ => none, deep := fun _ => false }
theorem c_laws_eqAddressS : Contract Try.prog 78 e_laws_eqAddressS.sig e_laws_eqAddressS.F :=
  den_is (E := v_laws_eqAddressS) ⟨tab_ti, tab_eq⟩ (fns_cons c_laws_eqAddress (fns_nil _)) mixed Try.func78 (by kernel_rfl) (by kernel_rfl) (fun x => by kernel_rfl)

def s_laws_eqEdition : Sig := { params := [.val true y87, .val true y87], res := [.val false y4] }
noncomputable def e_laws_eqEdition : Entry := ⟨s_laws_eqEdition, fun a => D.laws_eqEdition a.1 a.2⟩
noncomputable def v_laws_eqEdition : Env := { ti := look tab, Γ := fns [(73, [], e_laws_eqCaptureS), (78, [], e_laws_eqAddressS)], loop := fun _ => none, cut := fun _ => none, deep := fun _ => false }
theorem c_laws_eqEdition : Contract Try.prog 55 e_laws_eqEdition.sig e_laws_eqEdition.F :=
  den_is (E := v_laws_eqEdition) ⟨tab_ti, tab_eq⟩ (fns_cons c_laws_eqCaptureS (fns_cons c_laws_eqAddressS (fns_nil _))) mixed Try.func55 (by kernel_rfl) (by kernel_rfl) (fun x => by kernel_rfl)

def s_laws_FnExactAgreeOutside : Sig := { params := [.val true y82, .val true y82, .val false y80], res := [.val false y4] }
noncomputable def e_laws_FnExactAgreeOutside : Entry := ⟨s_laws_FnExactAgreeOutside, fun a => D.laws_FnExactAgreeOutside a.1 a.2.1 a.2.2⟩
noncomputable def v_laws_FnExactAgreeOutside : Env := { ti := look tab, Γ := fns [(51, [], e_laws_szEdition), (74, [], e_laws_szAddressS), (53, [], e_laws_toEdition), (76, [], e_laws_toAddressS), (75, [], e_spec_AgreeOutside), (77, [], e_impl_AgreeOutside), (55, [], e_laws_eqEdition), (78, [], e_laws_eqAddressS)], loop := fun _ => none, cut := fun _ => none, deep := fun _ => false }
theorem c_laws_FnExactAgreeOutside : Contract Try.prog 12 e_laws_FnExactAgreeOutside.sig e_laws_FnExactAgreeOutside.F :=
  den_is (E := v_laws_FnExactAgreeOutside) ⟨tab_ti, tab_eq⟩ (fns_cons c_laws_szEdition (fns_cons c_laws_szAddressS (fns_cons c_laws_toEdition (fns_cons c_laws_toAddressS (fns_cons c_spec_AgreeOutside (fns_cons c_impl_AgreeOutside (fns_cons c_laws_eqEdition (fns_cons c_laws_eqAddressS (fns_nil _))))))))) mixed Try.func12 (by kernel_rfl) (by kernel_rfl) (fun x => by kernel_rfl)

theorem law_true (a : Tup (s_laws_FnExactAgreeOutside.params.map PTy.den)) (hok : argsOk Try.prog s_laws_FnExactAgreeOutside.params a) : D.laws_FnExactAgreeOutside a.1 a.2.1 a.2.2 = some true := D.FnExactAgreeOutside_true a.1 a.2.1 a.2.2 (Ty.ok_bd (P := Try.prog) (t := y82) (by kernel_rfl) hok.1) (Ty.ok_bd (P := Try.prog) (t := y82) (by kernel_rfl) hok.2.1) (Ty.ok_bd (P := Try.prog) (t := y80) (by kernel_rfl) hok.2.2.1)
theorem lifted (os : Os) (started : os.Started) (H : Type) (enc : TypeId × Value → H) :
    ReturnsInHanded {} Try.checked os 12 .any (Rows.fnExactAgreeOutsideSpec.pre6 enc Try.prog Try.f12 Rows.fnExactAgreeOutsideRow.domain false) (Rows.fnExactAgreeOutsideSpec.post enc Try.prog Try.f12 false true false false) := by
  refine returnsInHanded_of_change_sized (C := Try.checked) (by kernel_rfl) started (by kernel_rfl) Try.func12
    (ChangeSpec.witness6 (enc := enc) (C := Try.checked) false ⟨#[], #[.agg #[.slice none 0 0, .int .i64 0, .int .i64 0, .slice none 0 0], .agg #[.slice none 0 0, .int .i64 0, .int .i64 0, .slice none 0 0], .slice none 0 0], []⟩ 8 (by kernel_rfl) (by kernel_rfl) (by kernel_rfl) (by kernel_rfl)) ?_
  intro W base args ds gs before hval hW hcnd hsz _
  exact law_row (C := Try.checked) rfl c_laws_FnExactAgreeOutside (N := 8) (by kernel_rfl) (tb := 4) (by kernel_rfl) (by kernel_rfl) (by kernel_rfl) (by kernel_rfl) rfl
    (fun ds h => by
      have h : ds.length = 3 := h
      match ds, h with
      | [d0, d1, d2], _ => rfl)
    bulky_sizeOf (small := fun _ => True) (fun a ds hok _ _ => ⟨_, law_true a hok, rfl⟩) hval hW hsz trivial

theorem over : Rows.fnExactAgreeOutsideRow.holds Try.pinned (OpenSpec.ofChange Rows.fnExactAgreeOutsideSpec) :=
  OpenClaim.holds_of_wide 12 Try.f12 rfl rfl rfl rfl rfl rfl rfl ⟨rfl, rfl, rfl, rfl, rfl⟩ rfl rfl rfl rfl rfl (by kernel_rfl) Try.func12 (by kernel_rfl)
    (of_decide_eq_true (by kernel_rfl)) (by unfold Func.isWrapper; first | (rw [if_pos (by decide +kernel)]; kernel_rfl) | (rw [if_neg (by decide +kernel)]; exact ⟨rfl, rfl⟩))
    (fun os started H enc _ => lifted os started H enc)
end Go.Proofs.Ytomfcmpdjfdnhaa.SxFnExactAgreeOutside
namespace Go.Proofs.Ytomfcmpdjfdnhaa
theorem fnExactAgreeOutside_holds : Rows.FnExactAgreeOutsideSaid := SxFnExactAgreeOutside.over
end Go.Proofs.Ytomfcmpdjfdnhaa
