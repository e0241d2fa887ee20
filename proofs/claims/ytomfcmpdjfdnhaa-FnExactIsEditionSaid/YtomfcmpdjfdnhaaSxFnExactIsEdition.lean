/- FnExactIsEdition returns true for every input, and each input reads as it did. No condition. -/
import Derived.Test.YtomfcmpdjfdnhaaRows
import Derived.Test.YtomfcmpdjfdnhaaPuFnExactIsEdition
import Derived.WalkKit
import Derived.ProofKit
import Derived.ShutString
import Derived.SizedLaws
set_option linter.unusedVariables false
set_option maxRecDepth 100000
set_option maxHeartbeats 4000000
namespace Go.Proofs.Ytomfcmpdjfdnhaa.SxFnExactIsEdition
open Go Go.Sh Go.RowKit
def y3 : Ty := .int .i64
def y4 : Ty := .bool
def y22 : Ty := .slice 3 y3
def y24 : Ty := .pair y3 (.pair y3 y3)
def y26 : Ty := .pair y3 (.pair y22 y24)
def y29 : Ty := .pair y3 (.pair y3 y3)
def y31 : Ty := .pair y3 (.pair y22 y29)
def y38 : Ty := .pair y24 (.pair y3 y26)
def y44 : Ty := .pair y29 (.pair y3 y31)
def y61 : Ty := .slice 44 y44
def y79 : Ty := .slice 38 y38
def y80 : Ty := .slice 24 y24
def y82 : Ty := .pair y79 (.pair y3 (.pair y3 y80))
def y85 : Ty := .slice 29 y29
def y87 : Ty := .pair y61 (.pair y3 (.pair y3 y85))
def tab : List (TypeId × TI) := [(3, { size := 1, bytes := 8, agg := false, ty := some y3 }),
  (4, { size := 1, bytes := 1, agg := false, ty := some y4 }),
  (22, { size := 1, bytes := 24, agg := false, ty := some y22, elem := some 3 }),
  (24, { size := 3, bytes := 24, agg := true, ty := some y24, fields := [(0, 3), (1, 3), (2, 3)] }),
  (26, { size := 5, bytes := 56, agg := true, ty := some y26, fields := [(0, 3), (1, 22), (2, 24)] }),
  (29, { size := 3, bytes := 24, agg := true, ty := some y29, fields := [(0, 3), (1, 3), (2, 3)], eq := true }),
  (31, { size := 5, bytes := 56, agg := true, ty := some y31, fields := [(0, 3), (1, 22), (2, 29)] }),
  (38, { size := 9, bytes := 88, agg := true, ty := some y38, fields := [(0, 24), (3, 3), (4, 26)] }),
  (44, { size := 9, bytes := 88, agg := true, ty := some y44, fields := [(0, 29), (3, 3), (4, 31)] }),
  (61, { size := 1, bytes := 24, agg := false, ty := some y61, elem := some 44 }),
  (79, { size := 1, bytes := 24, agg := false, ty := some y79, elem := some 38 }),
  (80, { size := 1, bytes := 24, agg := false, ty := some y80, elem := some 24 }),
  (82, { size := 4, bytes := 64, agg := true, ty := some y82, fields := [(0, 79), (1, 3), (2, 3), (3, 80)] }),
  (85, { size := 1, bytes := 24, agg := false, ty := some y85, elem := some 29 }),
  (87, { size := 4, bytes := 64, agg := true, ty := some y87, fields := [(0, 61), (1, 3), (2, 3), (3, 85)] })]
def look : List (TypeId × TI) → TypeId → Option TI
  | [], _ => none
  | (k, i) :: r, t => if Nat.beq t k = true then some i else look r t
theorem look_ok {P : Program} : ∀ {l : List (TypeId × TI)}, (l.all fun p => tiOk P p.1 p.2) = true → ∀ t i, look l t = some i → tiOk P t i = true
  | [], _, t, i, h => by simp [look] at h
  | (k, j) :: r, h0, t, i, h => by
    simp only [List.all_cons, Bool.and_eq_true] at h0
    simp only [look] at h
    split at h
    · rename_i hk
      simp only [Option.some.injEq] at h
      have := Nat.eq_of_beq_eq_true hk
      subst this; subst h; exact h0.1
    · exact look_ok h0.2 t i h
theorem look_eq {P : Program} : ∀ {l : List (TypeId × TI)}, (l.all fun p => !p.2.eq || eqTop P p.1 p.2.ty) = true → ∀ t i, look l t = some i → i.eq = true → ∀ ty, i.ty = some ty → EqLaw P t ty.zero
  | [], _, t, i, h => by simp [look] at h
  | (k, j) :: r, h0, t, i, h => by
    simp only [List.all_cons, Bool.and_eq_true, Bool.or_eq_true, Bool.not_eq_true'] at h0
    simp only [look] at h
    split at h
    · rename_i hk
      simp only [Option.some.injEq] at h
      have := Nat.eq_of_beq_eq_true hk
      subst this; subst h
      intro he
      exact eqLaw_of (h0.1.resolve_left (by simp [he]))
    · exact look_eq h0.2 t i h
def same : List Nat → List Nat → Bool
  | [], [] => true
  | a :: x, b :: y => Nat.beq a b && same x y
  | _, _ => false
theorem same_eq : ∀ {x y : List Nat}, same x y = true → x = y
  | [], [], _ => rfl
  | a :: x, b :: y, h => by
    simp only [same, Bool.and_eq_true] at h
    rw [Nat.eq_of_beq_eq_true h.1, same_eq h.2]
  | [], _ :: _, h => by simp [same] at h
  | _ :: _, [], h => by simp [same] at h
def fns : List (FuncId × List FuncId × Entry) → FuncId → List FuncId → Option Entry
  | [], _, _ => none
  | (k, c, e) :: r, f, fs => if (Nat.beq f k && same fs c) = true then some e else fns r f fs
theorem fns_nil (P : Program) : ∀ f fs en, fns [] f fs = some en → Contract P f en.sig en.F := fun f fs en h => by simp [fns] at h
theorem fns_cons {P : Program} {k : FuncId} {c : List FuncId} {e : Entry} {r : List (FuncId × List FuncId × Entry)} (hk : Contract P k e.sig e.F) (hr : ∀ f fs en, fns r f fs = some en → Contract P f en.sig en.F) : ∀ f fs en, fns ((k, c, e) :: r) f fs = some en → Contract P f en.sig en.F := fun f fs en h => by
  simp only [fns] at h
  split at h
  · rename_i hf
    simp only [Bool.and_eq_true] at hf
    simp only [Option.some.injEq] at h
    have := Nat.eq_of_beq_eq_true hf.1
    subst this; subst h; exact hk
  · exact hr f fs en h

theorem tab_ti : ∀ t i, look tab t = some i → tiOk Try.prog t i = true := look_ok (by kernel_rfl)
theorem tab_eq : ∀ t i, look tab t = some i → i.eq = true → ∀ ty, i.ty = some ty → EqLaw Try.prog t ty.zero := look_eq (by kernel_rfl)
theorem mixed : Try.prog.follows .mixedOrders = true := by kernel_rfl
def s_laws_szIntS : Sig := { params := [.val false y22, .val false y3], res := [.val false y3] }
noncomputable def e_laws_szIntS : Entry := ⟨s_laws_szIntS, fun a => D.laws_szIntS a.1 a.2⟩
noncomputable def v_laws_szIntS : Env := { ti := look tab, Γ := fns [], loop := fun _ => none, cut := fun _ => none, deep := fun _ => false }
theorem c_laws_szIntS : Contract Try.prog 81 e_laws_szIntS.sig e_laws_szIntS.F :=
  den_is (E := v_laws_szIntS) ⟨tab_ti, tab_eq⟩ (fns_nil _) mixed Try.func81 (by kernel_rfl) (by kernel_rfl) (fun x => by kernel_rfl)

def s_laws_szResource : Sig := { params := [.val true y26, .val false y3], res := [.val false y3] }
noncomputable def e_laws_szResource : Entry := ⟨s_laws_szResource, fun a => D.laws_szResource a.1 a.2⟩
noncomputable def v_laws_szResource : Env := { ti := look tab, Γ := fns [(81, [], e_laws_szIntS)], loop := fun _ => none, cut := fun _ => none, deep := fun _ => false }
theorem c_laws_szResource : Contract Try.prog 14 e_laws_szResource.sig e_laws_szResource.F :=
  den_is (E := v_laws_szResource) ⟨tab_ti, tab_eq⟩ (fns_cons c_laws_szIntS (fns_nil _)) mixed Try.func14 (by kernel_rfl) (by kernel_rfl) (fun x => by kernel_rfl)

def s_laws_szCapture : Sig := { params := [.val true y38, .val false y3], res := [.val false y3] }
noncomputable def e_laws_szCapture : Entry := ⟨s_laws_szCapture, fun a => D.laws_szCapture a.1 a.2⟩
noncomputable def v_laws_szCapture : Env := { ti := look tab, Γ := fns [(14, [], e_laws_szResource)], loop := fun _ => none, cut := fun _ => none, deep := fun _ => false }
theorem c_laws_szCapture : Contract Try.prog 21 e_laws_szCapture.sig e_laws_szCapture.F :=
  den_is (E := v_laws_szCapture) ⟨tab_ti, tab_eq⟩ (fns_cons c_laws_szResource (fns_nil _)) mixed Try.func21 (by kernel_rfl) (by kernel_rfl) (fun x => by kernel_rfl)

def s_laws_szCaptureS : Sig := { params := [.val false y79, .val false y3], res := [.val false y3] }
noncomputable def e_laws_szCaptureS : Entry := ⟨s_laws_szCaptureS, fun a => D.laws_szCaptureS a.1 a.2⟩
noncomputable def v_laws_szCaptureS : Env := { ti := look tab, Γ := fns [(21, [], e_laws_szCapture)], loop := fun b => match b with | 0 => some [.slot 1 (.int .i64), .slot 5 (.int .i64)] | _ => none, cut := fun _ => none, deep := fun _ => false }
theorem c_laws_szCaptureS : Contract Try.prog 70 e_laws_szCaptureS.sig e_laws_szCaptureS.F :=
  den_is (E := v_laws_szCaptureS) ⟨tab_ti, tab_eq⟩ (fns_cons c_laws_szCapture (fns_nil _)) mixed Try.func70 (by kernel_rfl) (by kernel_rfl) (fun x => by kernel_rfl)

def s_laws_szAddressS : Sig := { params := [.val false y80, .val false y3], res := [.val false y3] }
noncomputable def e_laws_szAddressS : Entry := ⟨s_laws_szAddressS, fun a => D.laws_szAddressS a.1 a.2⟩
noncomputable def v_laws_szAddressS : Env := { ti := look tab, Γ := fns [], loop := fun _ => none, cut := fun _ => none, deep := fun _ => false }
theorem c_laws_szAddressS : Contract Try.prog 74 e_laws_szAddressS.sig e_laws_szAddressS.F :=
  den_is (E := v_laws_szAddressS) ⟨tab_ti, tab_eq⟩ (fns_nil _) mixed Try.func74 (by kernel_rfl) (by kernel_rfl) (fun x => by kernel_rfl)

def s_laws_szEdition : Sig := { params := [.val true y82, .val false y3], res := [.val false y3] }
noncomputable def e_laws_szEdition : Entry := ⟨s_laws_szEdition, fun a => D.laws_szEdition a.1 a.2⟩
noncomputable def v_laws_szEdition : Env := { ti := look tab, Γ := fns [(70, [], e_laws_szCaptureS), (74, [], e_laws_szAddressS)], loop := fun _ => none, cut := fun _ => none, deep := fun _ => false }
theorem c_laws_szEdition : Contract Try.prog 51 e_laws_szEdition.sig e_laws_szEdition.F :=
  den_is (E := v_laws_szEdition) ⟨tab_ti, tab_eq⟩ (fns_cons c_laws_szCaptureS (fns_cons c_laws_szAddressS (fns_nil _))) mixed Try.func51 (by kernel_rfl) (by kernel_rfl) (fun x => by kernel_rfl)

def s_laws_toAddress : Sig := { params := [.val true y24], res := [.val true y29] }
noncomputable def e_laws_toAddress : Entry := ⟨s_laws_toAddress, fun a => D.laws_toAddress a⟩
noncomputable def v_laws_toAddress : Env := { ti := look tab, Γ := fns [], loop := fun _ => none, cut := fun _ => none, deep := fun _ => false }
theorem c_laws_toAddress : Contract Try.prog 83 e_laws_toAddress.sig e_laws_toAddress.F :=
  den_is (E := v_laws_toAddress) ⟨tab_ti, tab_eq⟩ (fns_nil _) mixed Try.func83 (by kernel_rfl) (by kernel_rfl) (fun x => by kernel_rfl)

def s_laws_toIntS : Sig := { params := [.val false y22], res := [.row 3 y3 false] }
noncomputable def e_laws_toIntS : Entry := ⟨s_laws_toIntS, fun a => D.laws_toIntS a⟩
noncomputable def v_laws_toIntS : Env := { ti := look tab, Γ := fns [], loop := fun b => match b with | 0 => some [.slot 4 (.int .i64), .vec 3 3 y3 false] | _ => none, cut := fun _ => none, deep := fun _ => false }
theorem c_laws_toIntS : Contract Try.prog 17 e_laws_toIntS.sig e_laws_toIntS.F :=
  den_is (E := v_laws_toIntS) ⟨tab_ti, tab_eq⟩ (fns_nil _) mixed Try.func17 (by kernel_rfl) (by kernel_rfl) (fun x => by kernel_rfl)

def s_laws_toResource : Sig := { params := [.val true y26], res := [.val true y31] }
noncomputable def e_laws_toResource : Entry := ⟨s_laws_toResource, fun a => D.laws_toResource a⟩
noncomputable def v_laws_toResource : Env := { ti := look tab, Γ := fns [(17, [], e_laws_toIntS), (83, [], e_laws_toAddress)], loop := fun _ => none, cut := fun _ => none, deep := fun _ => false }
theorem c_laws_toResource : Contract Try.prog 16 e_laws_toResource.sig e_laws_toResource.F :=
  den_is (E := v_laws_toResource) ⟨tab_ti, tab_eq⟩ (fns_cons c_laws_toIntS (fns_cons c_laws_toAddress (fns_nil _))) mixed Try.func16 (by kernel_rfl) (by kernel_rfl) (fun x => by kernel_rfl)

def s_laws_toCapture : Sig := { params := [.val true y38], res := [.val true y44] }
noncomputable def e_laws_toCapture : Entry := ⟨s_laws_toCapture, fun a => D.laws_toCapture a⟩
noncomputable def v_laws_toCapture : Env := { ti := look tab, Γ := fns [(83, [], e_laws_toAddress), (16, [], e_laws_toResource)], loop := fun _ => none, cut := fun _ => none, deep := fun _ => false }
theorem c_laws_toCapture : Contract Try.prog 24 e_laws_toCapture.sig e_laws_toCapture.F :=
  den_is (E := v_laws_toCapture) ⟨tab_ti, tab_eq⟩ (fns_cons c_laws_toAddress (fns_cons c_laws_toResource (fns_nil _))) mixed Try.func24 (by kernel_rfl) (by kernel_rfl) (fun x => by kernel_rfl)

def s_laws_toCaptureS : Sig := { params := [.val false y79], res := [.row 44 y44 false] }
noncomputable def e_laws_toCaptureS : Entry := ⟨s_laws_toCaptureS, fun a => D.laws_toCaptureS a⟩
noncomputable def v_laws_toCaptureS : Env := { ti := look tab, Γ := fns [(24, [], e_laws_toCapture)], loop := fun b => match b with | 0 => some [.slot 4 (.int .i64), .vec 3 44 y44 false] | _ => none, cut := fun _ => none, deep := fun _ => false }
theorem c_laws_toCaptureS : Contract Try.prog 72 e_laws_toCaptureS.sig e_laws_toCaptureS.F :=
  den_is (E := v_laws_toCaptureS) ⟨tab_ti, tab_eq⟩ (fns_cons c_laws_toCapture (fns_nil _)) mixed Try.func72 (by kernel_rfl) (by kernel_rfl) (fun x => by kernel_rfl)

def s_laws_toAddressS : Sig := { params := [.val false y80], res := [.row 29 y29 false] }
noncomputable def e_laws_toAddressS : Entry := ⟨s_laws_toAddressS, fun a => D.laws_toAddressS a⟩
noncomputable def v_laws_toAddressS : Env := { ti := look tab, Γ := fns [(83, [], e_laws_toAddress)], loop := fun b => match b with | 0 => some [.slot 4 (.int .i64), .vec 3 29 y29 false] | _ => none, cut := fun _ => none, deep := fun _ => false }
theorem c_laws_toAddressS : Contract Try.prog 76 e_laws_toAddressS.sig e_laws_toAddressS.F :=
  den_is (E := v_laws_toAddressS) ⟨tab_ti, tab_eq⟩ (fns_cons c_laws_toAddress (fns_nil _)) mixed Try.func76 (by kernel_rfl) (by kernel_rfl) (fun x => by kernel_rfl)

def s_laws_toEdition : Sig := { params := [.val true y82], res := [.val true y87] }
noncomputable def e_laws_toEdition : Entry := ⟨s_laws_toEdition, fun a => D.laws_toEdition a⟩
noncomputable def v_laws_toEdition : Env := { ti := look tab, Γ := fns [(72, [], e_laws_toCaptureS), (76, [], e_laws_toAddressS)], loop := fun _ => none, cut := fun _ => none, deep := fun _ => false }
theorem c_laws_toEdition : Contract Try.prog 53 e_laws_toEdition.sig e_laws_toEdition.F :=
  den_is (E := v_laws_toEdition) ⟨tab_ti, tab_eq⟩ (fns_cons c_laws_toCaptureS (fns_cons c_laws_toAddressS (fns_nil _))) mixed Try.func53 (by kernel_rfl) (by kernel_rfl) (fun x => by kernel_rfl)

def s_spec_l1In : Sig := { params := [.val false y3, .val false y3, .val false y3], res := [.val false y4] }
noncomputable def e_spec_l1In : Entry := ⟨s_spec_l1In, fun a => D.spec_l1In a.1 a.2.1 a.2.2⟩
noncomputable def v_spec_l1In : Env := { ti := look tab, Γ := fns [], loop := fun _ => none, cut := fun _ => none, deep := fun _ => false }
theorem c_spec_l1In : Contract Try.prog 137 e_spec_l1In.sig e_spec_l1In.F :=
  den_is (E := v_spec_l1In) ⟨tab_ti, tab_eq⟩ (fns_nil _) mixed Try.func137 (by kernel_rfl) (by kernel_rfl) (fun x => by kernel_rfl)

def s_spec_l9Has : Sig := { params := [.val false y85, .val true y29], res := [.val false y4] }
noncomputable def e_spec_l9Has : Entry := ⟨s_spec_l9Has, fun a => D.spec_l9Has a.1 a.2⟩
noncomputable def v_spec_l9Has : Env := { ti := look tab, Γ := fns [], loop := fun b => match b with | 0 => some [.slot 5 (.int .i64)] | _ => none, cut := fun _ => none, deep := fun _ => false }
theorem c_spec_l9Has : Contract Try.prog 138 e_spec_l9Has.sig e_spec_l9Has.F :=
  den_is (E := v_spec_l9Has) ⟨tab_ti, tab_eq⟩ (fns_nil _) mixed Try.func138 (by kernel_rfl) (by kernel_rfl) (fun x => by kernel_rfl)

def s_spec_EqualInts : Sig := { params := [.val false y22, .val false y22], res := [.val false y4] }
noncomputable def e_spec_EqualInts : Entry := ⟨s_spec_EqualInts, fun a => D.spec_EqualInts a.1 a.2⟩
noncomputable def v_spec_EqualInts : Env := { ti := look tab, Γ := fns [], loop := fun b => match b with | 0 => some [.slot 5 (.int .i64)] | _ => none, cut := fun _ => none, deep := fun _ => false }
theorem c_spec_EqualInts : Contract Try.prog 188 e_spec_EqualInts.sig e_spec_EqualInts.F :=
  den_is (E := v_spec_EqualInts) ⟨tab_ti, tab_eq⟩ (fns_nil _) mixed Try.func188 (by kernel_rfl) (by kernel_rfl) (fun x => by kernel_rfl)

def s_spec_EqualResources : Sig := { params := [.val true y31, .val true y31], res := [.val false y4] }
noncomputable def e_spec_EqualResources : Entry := ⟨s_spec_EqualResources, fun a => D.spec_EqualResources a.1 a.2⟩
noncomputable def v_spec_EqualResources : Env := { ti := look tab, Γ := fns [(188, [], e_spec_EqualInts)], loop := fun _ => none, cut := fun _ => none, deep := fun _ => false }
theorem c_spec_EqualResources : Contract Try.prog 183 e_spec_EqualResources.sig e_spec_EqualResources.F :=
  den_is (E := v_spec_EqualResources) ⟨tab_ti, tab_eq⟩ (fns_cons c_spec_EqualInts (fns_nil _)) mixed Try.func183 (by kernel_rfl) (by kernel_rfl) (fun x => by kernel_rfl)

def s_spec_l15Same : Sig := { params := [.val true y44, .val true y44], res := [.val false y4] }
noncomputable def e_spec_l15Same : Entry := ⟨s_spec_l15Same, fun a => D.spec_l15Same a.1 a.2⟩
noncomputable def v_spec_l15Same : Env := { ti := look tab, Γ := fns [(183, [], e_spec_EqualResources)], loop := fun _ => none, cut := fun _ => none, deep := fun _ => false }
theorem c_spec_l15Same : Contract Try.prog 163 e_spec_l15Same.sig e_spec_l15Same.F :=
  den_is (E := v_spec_l15Same) ⟨tab_ti, tab_eq⟩ (fns_cons c_spec_EqualResources (fns_nil _)) mixed Try.func163 (by kernel_rfl) (by kernel_rfl) (fun x => by kernel_rfl)

def s_spec_l20In : Sig := { params := [.val false y61, .val true y44], res := [.val false y4] }
noncomputable def e_spec_l20In : Entry := ⟨s_spec_l20In, fun a => D.spec_l20In a.1 a.2⟩
noncomputable def v_spec_l20In : Env := { ti := look tab, Γ := fns [(163, [], e_spec_l15Same)], loop := fun b => match b with | 0 => some [.slot 5 (.int .i64)] | _ => none, cut := fun _ => none, deep := fun _ => false }
theorem c_spec_l20In : Contract Try.prog 139 e_spec_l20In.sig e_spec_l20In.F :=
  den_is (E := v_spec_l20In) ⟨tab_ti, tab_eq⟩ (fns_cons c_spec_l15Same (fns_nil _)) mixed Try.func139 (by kernel_rfl) (by kernel_rfl) (fun x => by kernel_rfl)

def s_spec_IsAddress : Sig := { params := [.val true y29], res := [.val false y4] }
noncomputable def e_spec_IsAddress : Entry := ⟨s_spec_IsAddress, fun a => D.spec_IsAddress a⟩
noncomputable def v_spec_IsAddress : Env := { ti := look tab, Γ := fns [(137, [], e_spec_l1In)], loop := fun _ => none, cut := fun _ => none, deep := fun _ => false }
theorem c_spec_IsAddress : Contract Try.prog 168 e_spec_IsAddress.sig e_spec_IsAddress.F :=
  den_is (E := v_spec_IsAddress) ⟨tab_ti, tab_eq⟩ (fns_cons c_spec_l1In (fns_nil _)) mixed Try.func168 (by kernel_rfl) (by kernel_rfl) (fun x => by kernel_rfl)

def s_spec_l5Bytes : Sig := { params := [.val false y22], res := [.val false y4] }
noncomputable def e_spec_l5Bytes : Entry := ⟨s_spec_l5Bytes, fun a => D.spec_l5Bytes a⟩
noncomputable def v_spec_l5Bytes : Env := { ti := look tab, Γ := fns [(137, [], e_spec_l1In)], loop := fun b => match b with | 0 => some [.slot 3 (.int .i64)] | _ => none, cut := fun _ => none, deep := fun _ => false }
theorem c_spec_l5Bytes : Contract Try.prog 184 e_spec_l5Bytes.sig e_spec_l5Bytes.F :=
  den_is (E := v_spec_l5Bytes) ⟨tab_ti, tab_eq⟩ (fns_cons c_spec_l1In (fns_nil _)) mixed Try.func184 (by kernel_rfl) (by kernel_rfl) (fun x => by kernel_rfl)

def s_spec_IsResource : Sig := { params := [.val true y31], res := [.val false y4] }
noncomputable def e_spec_IsResource : Entry := ⟨s_spec_IsResource, fun a => D.spec_IsResource a⟩
noncomputable def v_spec_IsResource : Env := { ti := look tab, Γ := fns [(137, [], e_spec_l1In), (184, [], e_spec_l5Bytes), (168, [], e_spec_IsAddress)], loop := fun _ => none, cut := fun _ => none, deep := fun _ => false }
theorem c_spec_IsResource : Contract Try.prog 169 e_spec_IsResource.sig e_spec_IsResource.F :=
  den_is (E := v_spec_IsResource) ⟨tab_ti, tab_eq⟩ (fns_cons c_spec_l1In (fns_cons c_spec_l5Bytes (fns_cons c_spec_IsAddress (fns_nil _)))) mixed Try.func169 (by kernel_rfl) (by kernel_rfl) (fun x => by kernel_rfl)

def s_spec_AreCaptures : Sig := { params := [.val false y61], res := [.val false y4] }
noncomputable def e_spec_AreCaptures : Entry := ⟨s_spec_AreCaptures, fun a => D.spec_AreCaptures a⟩
noncomputable def v_spec_AreCaptures : Env := { ti := look tab, Γ := fns [(168, [], e_spec_IsAddress), (137, [], e_spec_l1In), (169, [], e_spec_IsResource)], loop := fun b => match b with | 0 => some [.slot 3 (.int .i64)] | _ => none, cut := fun _ => none, deep := fun _ => false }
theorem c_spec_AreCaptures : Contract Try.prog 140 e_spec_AreCaptures.sig e_spec_AreCaptures.F :=
  den_is (E := v_spec_AreCaptures) ⟨tab_ti, tab_eq⟩ (fns_cons c_spec_IsAddress (fns_cons c_spec_l1In (fns_cons c_spec_IsResource (fns_nil _)))) mixed Try.func140 (by kernel_rfl) (by kernel_rfl) (fun x => by kernel_rfl)

def s_spec_IsEdition : Sig := { params := [.val true y87], res := [.val false y4] }
noncomputable def e_spec_IsEdition : Entry := ⟨s_spec_IsEdition, fun a => D.spec_IsEdition a⟩
noncomputable def v_spec_IsEdition : Env := { ti := look tab, Γ := fns [(137, [], e_spec_l1In), (138, [], e_spec_l9Has), (139, [], e_spec_l20In), (140, [], e_spec_AreCaptures)], loop := fun b => match b with | 0 => some [.slot 3 (.int .i64)] | _ => none, cut := fun _ => none, deep := fun _ => false }
theorem c_spec_IsEdition : Contract Try.prog 79 e_spec_IsEdition.sig e_spec_IsEdition.F :=
  den_is (E := v_spec_IsEdition) ⟨tab_ti, tab_eq⟩ (fns_cons c_spec_l1In (fns_cons c_spec_l9Has (fns_cons c_spec_l20In (fns_cons c_spec_AreCaptures (fns_nil _))))) mixed Try.func79 (by kernel_rfl) (by kernel_rfl) (fun x => by kernel_rfl)

def s_impl_InRange : Sig := { params := [.val false y3, .val false y3, .val false y3], res := [.val false y4] }
noncomputable def e_impl_InRange : Entry := ⟨s_impl_InRange, fun a => D.impl_InRange a.1 a.2.1 a.2.2⟩
noncomputable def v_impl_InRange : Env := { ti := look tab, Γ := fns [], loop := fun _ => none, cut := fun _ => none, deep := fun _ => false }
theorem c_impl_InRange : Contract Try.prog 122 e_impl_InRange.sig e_impl_InRange.F :=
  den_is (E := v_impl_InRange) ⟨tab_ti, tab_eq⟩ (fns_nil _) mixed Try.func122 (by kernel_rfl) (by kernel_rfl) (fun x => by kernel_rfl)

def s_impl_IsAddress : Sig := { params := [.val true y29], res := [.val false y4] }
noncomputable def e_impl_IsAddress : Entry := ⟨s_impl_IsAddress, fun a => D.impl_IsAddress a⟩
noncomputable def v_impl_IsAddress : Env := { ti := look tab, Γ := fns [(122, [], e_impl_InRange)], loop := fun _ => none, cut := fun _ => none, deep := fun _ => false }
theorem c_impl_IsAddress : Contract Try.prog 172 e_impl_IsAddress.sig e_impl_IsAddress.F :=
  den_is (E := v_impl_IsAddress) ⟨tab_ti, tab_eq⟩ (fns_cons c_impl_InRange (fns_nil _)) mixed Try.func172 (by kernel_rfl) (by kernel_rfl) (fun x => by kernel_rfl)

def s_impl_allIn : Sig := { params := [.val false y22, .val false y3, .val false y3], res := [.val false y4] }
noncomputable def e_impl_allIn : Entry := ⟨s_impl_allIn, fun a => D.impl_allIn a.1 a.2.1 a.2.2⟩
noncomputable def v_impl_allIn : Env := { ti := look tab, Γ := fns [(122, [], e_impl_InRange)], loop := fun b => match b with | 0 => some [.slot 11 (.int .i64)] | _ => none, cut := fun _ => none, deep := fun _ => false }
theorem c_impl_allIn : Contract Try.prog 129 e_impl_allIn.sig e_impl_allIn.F :=
  den_is (E := v_impl_allIn) ⟨tab_ti, tab_eq⟩ (fns_cons c_impl_InRange (fns_nil _)) mixed Try.func129 (by kernel_rfl) (by kernel_rfl) (fun x => by kernel_rfl)

def s_impl_IsResource : Sig := { params := [.val true y31], res := [.val false y4] }
noncomputable def e_impl_IsResource : Entry := ⟨s_impl_IsResource, fun a => D.impl_IsResource a⟩
noncomputable def v_impl_IsResource : Env := { ti := look tab, Γ := fns [(129, [], e_impl_allIn), (172, [], e_impl_IsAddress)], loop := fun _ => none, cut := fun _ => none, deep := fun _ => false }
theorem c_impl_IsResource : Contract Try.prog 173 e_impl_IsResource.sig e_impl_IsResource.F :=
  den_is (E := v_impl_IsResource) ⟨tab_ti, tab_eq⟩ (fns_cons c_impl_allIn (fns_cons c_impl_IsAddress (fns_nil _))) mixed Try.func173 (by kernel_rfl) (by kernel_rfl) (fun x => by kernel_rfl)

def s_impl_AreCaptures_1 : Sig := { params := [.val true y44], res := [.val false y4] }
noncomputable def e_impl_AreCaptures_1 : Entry := ⟨s_impl_AreCaptures_1, fun a => D.impl_AreCaptures_1 a⟩
noncomputable def v_impl_AreCaptures_1 : Env := { ti := look tab, Γ := fns [(172, [], e_impl_IsAddress), (122, [], e_impl_InRange), (173, [], e_impl_IsResource)], loop := fun _ => none, cut := fun _ => none, deep := fun _ => false }
theorem c_impl_AreCaptures_1 : Contract Try.prog 171 e_impl_AreCaptures_1.sig e_impl_AreCaptures_1.F :=
  den_is (E := v_impl_AreCaptures_1) ⟨tab_ti, tab_eq⟩ (fns_cons c_impl_IsAddress (fns_cons c_impl_InRange (fns_cons c_impl_IsResource (fns_nil _)))) mixed Try.func171 (by kernel_rfl) (by kernel_rfl) (fun x => by kernel_rfl)

def s_slices_IndexFunc_Capture_impl_AreCaptures_1 : Sig := { params := [.val false y61, .fn 171 []], res := [.val false y3] }
noncomputable def e_slices_IndexFunc_Capture_impl_AreCaptures_1 : Entry := ⟨s_slices_IndexFunc_Capture_impl_AreCaptures_1, fun a => D.slices_IndexFunc_Capture_impl_AreCaptures_1 a.1⟩
noncomputable def v_slices_IndexFunc_Capture_impl_AreCaptures_1 : Env := { ti := look tab, Γ := fns [(171, [], e_impl_AreCaptures_1)], loop := fun b => match b with | 0 => some [.slot 8 (.int .i64)] | _ => none, cut := fun _ => none, deep := fun _ => false }
theorem c_slices_IndexFunc_Capture_impl_AreCaptures_1 : Contract Try.prog 187 e_slices_IndexFunc_Capture_impl_AreCaptures_1.sig e_slices_IndexFunc_Capture_impl_AreCaptures_1.F :=
  den_is (E := v_slices_IndexFunc_Capture_impl_AreCaptures_1) ⟨tab_ti, tab_eq⟩ (fns_cons c_impl_AreCaptures_1 (fns_nil _)) mixed Try.func187 (by kernel_rfl) (by kernel_rfl) (fun x => by kernel_rfl)

def s_slices_ContainsFunc_Capture_impl_AreCaptures_1 : Sig := { params := [.val false y61, .fn 171 []], res := [.val false y4] }
noncomputable def e_slices_ContainsFunc_Capture_impl_AreCaptures_1 : Entry := ⟨s_slices_ContainsFunc_Capture_impl_AreCaptures_1, fun a => D.slices_ContainsFunc_Capture_impl_AreCaptures_1 a.1⟩
noncomputable def v_slices_ContainsFunc_Capture_impl_AreCaptures_1 : Env := { ti := look tab, Γ := fns [(187, [171], e_slices_IndexFunc_Capture_impl_AreCaptures_1)], loop := fun _ => none, cut := fun _ => none, deep := fun _ => false }
theorem c_slices_ContainsFunc_Capture_impl_AreCaptures_1 : Contract Try.prog 170 e_slices_ContainsFunc_Capture_impl_AreCaptures_1.sig e_slices_ContainsFunc_Capture_impl_AreCaptures_1.F :=
  den_is (E := v_slices_ContainsFunc_Capture_impl_AreCaptures_1) ⟨tab_ti, tab_eq⟩ (fns_cons c_slices_IndexFunc_Capture_impl_AreCaptures_1 (fns_nil _)) mixed Try.func170 (by kernel_rfl) (by kernel_rfl) (fun x => by kernel_rfl)

def s_impl_AreCaptures : Sig := { params := [.val false y61], res := [.val false y4] }
noncomputable def e_impl_AreCaptures : Entry := ⟨s_impl_AreCaptures, fun a => D.impl_AreCaptures a⟩
noncomputable def v_impl_AreCaptures : Env := { ti := look tab, Γ := fns [(170, [171], e_slices_ContainsFunc_Capture_impl_AreCaptures_1)], loop := fun _ => none, cut := fun _ => none, deep := fun _ => false }
theorem c_impl_AreCaptures : Contract Try.prog 141 e_impl_AreCaptures.sig e_impl_AreCaptures.F :=
  den_is (E := v_impl_AreCaptures) ⟨tab_ti, tab_eq⟩ (fns_cons c_slices_ContainsFunc_Capture_impl_AreCaptures_1 (fns_nil _)) mixed Try.func141 (by kernel_rfl) (by kernel_rfl) (fun x => by kernel_rfl)

def s_slices_Index_Address : Sig := { params := [.val false y85, .val true y29], res := [.val false y3] }
noncomputable def e_slices_Index_Address : Entry := ⟨s_slices_Index_Address, fun a => D.slices_Index_Address a.1 a.2⟩
noncomputable def v_slices_Index_Address : Env := { ti := look tab, Γ := fns [], loop := fun b => match b with | 0 => some [.slot 8 (.int .i64)] | _ => none, cut := fun _ => none, deep := fun _ => false }
theorem c_slices_Index_Address : Contract Try.prog 174 e_slices_Index_Address.sig e_slices_Index_Address.F :=
  den_is (E := v_slices_Index_Address) ⟨tab_ti, tab_eq⟩ (fns_nil _) mixed Try.func174 (by kernel_rfl) (by kernel_rfl) (fun x => by kernel_rfl)

def s_slices_Contains_Address : Sig := { params := [.val false y85, .val true y29], res := [.val false y4] }
noncomputable def e_slices_Contains_Address : Entry := ⟨s_slices_Contains_Address, fun a => D.slices_Contains_Address a.1 a.2⟩
noncomputable def v_slices_Contains_Address : Env := { ti := look tab, Γ := fns [(174, [], e_slices_Index_Address)], loop := fun _ => none, cut := fun _ => none, deep := fun _ => false }
theorem c_slices_Contains_Address : Contract Try.prog 142 e_slices_Contains_Address.sig e_slices_Contains_Address.F :=
  den_is (E := v_slices_Contains_Address) ⟨tab_ti, tab_eq⟩ (fns_cons c_slices_Index_Address (fns_nil _)) mixed Try.func142 (by kernel_rfl) (by kernel_rfl) (fun x => by kernel_rfl)

def s_slices_Equal_int : Sig := { params := [.val false y22, .val false y22], res := [.val false y4] }
noncomputable def e_slices_Equal_int : Entry := ⟨s_slices_Equal_int, fun a => D.slices_Equal_int a.1 a.2⟩
noncomputable def v_slices_Equal_int : Env := { ti := look tab, Γ := fns [], loop := fun b => match b with | 0 => some [.slot 13 (.int .i64)] | _ => none, cut := fun _ => none, deep := fun _ => false }
theorem c_slices_Equal_int : Contract Try.prog 180 e_slices_Equal_int.sig e_slices_Equal_int.F :=
  den_is (E := v_slices_Equal_int) ⟨tab_ti, tab_eq⟩ (fns_nil _) mixed Try.func180 (by kernel_rfl) (by kernel_rfl) (fun x => by kernel_rfl)

def s_impl_EqualResources : Sig := { params := [.val true y31, .val true y31], res := [.val false y4] }
noncomputable def e_impl_EqualResources : Entry := ⟨s_impl_EqualResources, fun a => D.impl_EqualResources a.1 a.2⟩
noncomputable def v_impl_EqualResources : Env := { ti := look tab, Γ := fns [(180, [], e_slices_Equal_int)], loop := fun _ => none, cut := fun _ => none, deep := fun _ => false }
theorem c_impl_EqualResources : Contract Try.prog 158 e_impl_EqualResources.sig e_impl_EqualResources.F :=
  den_is (E := v_impl_EqualResources) ⟨tab_ti, tab_eq⟩ (fns_cons c_slices_Equal_int (fns_nil _)) mixed Try.func158 (by kernel_rfl) (by kernel_rfl) (fun x => by kernel_rfl)

def s_impl_sameCapture : Sig := { params := [.val true y44, .val true y44], res := [.val false y4] }
noncomputable def e_impl_sameCapture : Entry := ⟨s_impl_sameCapture, fun a => D.impl_sameCapture a.1 a.2⟩
noncomputable def v_impl_sameCapture : Env := { ti := look tab, Γ := fns [(158, [], e_impl_EqualResources)], loop := fun _ => none, cut := fun _ => none, deep := fun _ => false }
theorem c_impl_sameCapture : Contract Try.prog 109 e_impl_sameCapture.sig e_impl_sameCapture.F :=
  den_is (E := v_impl_sameCapture) ⟨tab_ti, tab_eq⟩ (fns_cons c_impl_EqualResources (fns_nil _)) mixed Try.func109 (by kernel_rfl) (by kernel_rfl) (fun x => by kernel_rfl)

def s_impl_hasCapture_1 : Sig := { params := [.val true y44, .cptr y44], res := [.val false y4] }
noncomputable def e_impl_hasCapture_1 : Entry := ⟨s_impl_hasCapture_1, fun a => D.impl_hasCapture_1 a.1 a.2⟩
noncomputable def v_impl_hasCapture_1 : Env := { ti := look tab, Γ := fns [(109, [], e_impl_sameCapture)], loop := fun _ => none, cut := fun _ => none, deep := fun _ => false }
theorem c_impl_hasCapture_1 : Contract Try.prog 175 e_impl_hasCapture_1.sig e_impl_hasCapture_1.F :=
  den_is (E := v_impl_hasCapture_1) ⟨tab_ti, tab_eq⟩ (fns_cons c_impl_sameCapture (fns_nil _)) mixed Try.func175 (by kernel_rfl) (by kernel_rfl) (fun x => by kernel_rfl)

def s_slices_IndexFunc_Capture_impl_hasCapture_1 : Sig := { params := [.val false y61, .fn 175 [y44]], res := [.val false y3] }
noncomputable def e_slices_IndexFunc_Capture_impl_hasCapture_1 : Entry := ⟨s_slices_IndexFunc_Capture_impl_hasCapture_1, fun a => D.slices_IndexFunc_Capture_impl_hasCapture_1 a.1 a.2⟩
noncomputable def v_slices_IndexFunc_Capture_impl_hasCapture_1 : Env := { ti := look tab, Γ := fns [(175, [], e_impl_hasCapture_1)], loop := fun b => match b with | 0 => some [.slot 8 (.int .i64)] | _ => none, cut := fun _ => none, deep := fun _ => false }
theorem c_slices_IndexFunc_Capture_impl_hasCapture_1 : Contract Try.prog 187 e_slices_IndexFunc_Capture_impl_hasCapture_1.sig e_slices_IndexFunc_Capture_impl_hasCapture_1.F :=
  den_is (E := v_slices_IndexFunc_Capture_impl_hasCapture_1) ⟨tab_ti, tab_eq⟩ (fns_cons c_impl_hasCapture_1 (fns_nil _)) mixed Try.func187 (by kernel_rfl) (by kernel_rfl) (fun x => by kernel_rfl)

def s_slices_ContainsFunc_Capture_impl_hasCapture_1 : Sig := { params := [.val false y61, .fn 175 [y44]], res := [.val false y4] }
noncomputable def e_slices_ContainsFunc_Capture_impl_hasCapture_1 : Entry := ⟨s_slices_ContainsFunc_Capture_impl_hasCapture_1, fun a => D.slices_ContainsFunc_Capture_impl_hasCapture_1 a.1 a.2⟩
noncomputable def v_slices_ContainsFunc_Capture_impl_hasCapture_1 : Env := { ti := look tab, Γ := fns [(187, [175], e_slices_IndexFunc_Capture_impl_hasCapture_1)], loop := fun _ => none, cut := fun _ => none, deep := fun _ => false }
theorem c_slices_ContainsFunc_Capture_impl_hasCapture_1 : Contract Try.prog 170 e_slices_ContainsFunc_Capture_impl_hasCapture_1.sig e_slices_ContainsFunc_Capture_impl_hasCapture_1.F :=
  den_is (E := v_slices_ContainsFunc_Capture_impl_hasCapture_1) ⟨tab_ti, tab_eq⟩ (fns_cons c_slices_IndexFunc_Capture_impl_hasCapture_1 (fns_nil _)) mixed Try.func170 (by kernel_rfl) (by kernel_rfl) (fun x => by kernel_rfl)

def s_impl_hasCapture : Sig := { params := [.val false y61, .val true y44], res := [.val false y4] }
noncomputable def e_impl_hasCapture : Entry := ⟨s_impl_hasCapture, fun a => D.impl_hasCapture a.1 a.2⟩
noncomputable def v_impl_hasCapture : Env := { ti := look tab, Γ := fns [(170, [175], e_slices_ContainsFunc_Capture_impl_hasCapture_1)], loop := fun _ => none, cut := fun _ => none, deep := fun _ => false }
theorem c_impl_hasCapture : Contract Try.prog 143 e_impl_hasCapture.sig e_impl_hasCapture.F :=
  den_is (E := v_impl_hasCapture) ⟨tab_ti, tab_eq⟩ (fns_cons c_slices_ContainsFunc_Capture_impl_hasCapture_1 (fns_nil _)) mixed Try.func143 (by kernel_rfl) (by kernel_rfl) (fun x => by kernel_rfl)

def s_impl_IsEdition : Sig := { params := [.val true y87], res := [.val false y4] }
noncomputable def e_impl_IsEdition : Entry := ⟨s_impl_IsEdition, fun a => D.impl_IsEdition a⟩
noncomputable def v_impl_IsEdition : Env := { ti := look tab, Γ := fns [(141, [], e_impl_AreCaptures), (122, [], e_impl_InRange), (142, [], e_slices_Contains_Address), (143, [], e_impl_hasCapture)], loop := fun b => match b with | 0 => some [.slot 25 (.int .i64)] | _ => none, cut := fun _ => none, deep := fun _ => false }
theorem c_impl_IsEdition : Contract Try.prog 80 e_impl_IsEdition.sig e_impl_IsEdition.F :=
  den_is (E := v_impl_IsEdition) ⟨tab_ti, tab_eq⟩ (fns_cons c_impl_AreCaptures (fns_cons c_impl_InRange (fns_cons c_slices_Contains_Address (fns_cons c_impl_hasCapture (fns_nil _))))) mixed Try.func80 (by kernel_rfl) (by kernel_rfl) (fun x => by kernel_rfl)

def s_laws_eqAddress : Sig := { params := [.val true y29, .val true y29], res := [.val false y4] }
noncomputable def e_laws_eqAddress : Entry := ⟨s_laws_eqAddress, fun a => D.laws_eqAddress a.1 a.2⟩
noncomputable def v_laws_eqAddress : Env := { ti := look tab, Γ := fns [], loop := fun _ => none, cut := fun _ => none, deep := fun _ => false }
theorem c_laws_eqAddress : Contract Try.prog 84 e_laws_eqAddress.sig e_laws_eqAddress.F :=
  den_is (E := v_laws_eqAddress) ⟨tab_ti, tab_eq⟩ (fns_nil _) mixed Try.func84 (by kernel_rfl) (by kernel_rfl) (fun x => by kernel_rfl)

def s_laws_eqIntS : Sig := { params := [.val false y22, .val false y22], res := [.val false y4] }
noncomputable def e_laws_eqIntS : Entry := ⟨s_laws_eqIntS, fun a => D.laws_eqIntS a.1 a.2⟩
noncomputable def v_laws_eqIntS : Env := { ti := look tab, Γ := fns [], loop := fun b => match b with | 0 => some [.slot 5 (.int .i64)] | _ => none, cut := fun _ => none, deep := fun _ => false }
theorem c_laws_eqIntS : Contract Try.prog 20 e_laws_eqIntS.sig e_laws_eqIntS.F :=
  den_is (E := v_laws_eqIntS) ⟨tab_ti, tab_eq⟩ (fns_nil _) mixed Try.func20 (by kernel_rfl) (by kernel_rfl) (fun x => by kernel_rfl)

def s_laws_eqResource : Sig := { params := [.val true y31, .val true y31], res := [.val false y4] }
noncomputable def e_laws_eqResource : Entry := ⟨s_laws_eqResource, fun a => D.laws_eqResource a.1 a.2⟩
noncomputable def v_laws_eqResource : Env := { ti := look tab, Γ := fns [(20, [], e_laws_eqIntS), (84, [], e_laws_eqAddress)], loop := fun _ => none, cut := fun _ => none, deep := fun _ => false }
theorem c_laws_eqResource : Contract Try.prog 19 e_laws_eqResource.sig e_laws_eqResource.F :=
  den_is (E := v_laws_eqResource) ⟨tab_ti, tab_eq⟩ (fns_cons c_laws_eqIntS (fns_cons c_laws_eqAddress (fns_nil _))) mixed Try.func19 (by kernel_rfl) (by kernel_rfl) (fun x => by kernel_rfl)

def s_laws_eqCapture : Sig := { params := [.val true y44, .val true y44], res := [.val false y4] }
noncomputable def e_laws_eqCapture : Entry := ⟨s_laws_eqCapture, fun a => D.laws_eqCapture a.1 a.2⟩
noncomputable def v_laws_eqCapture : Env := { ti := look tab, Γ := fns [(84, [], e_laws_eqAddress), (19, [], e_laws_eqResource)], loop := fun _ => none, cut := fun _ => none, deep := fun _ => false }
theorem c_laws_eqCapture : Contract Try.prog 27 e_laws_eqCapture.sig e_laws_eqCapture.F :=
  den_is (E := v_laws_eqCapture) ⟨tab_ti, tab_eq⟩ (fns_cons c_laws_eqAddress (fns_cons c_laws_eqResource (fns_nil _))) mixed Try.func27 (by kernel_rfl) (by kernel_rfl) (fun x => by kernel_rfl)

def s_laws_eqCaptureS : Sig := { params := [.val false y61, .val false y61], res := [.val false y4] }
noncomputable def e_laws_eqCaptureS : Entry := ⟨s_laws_eqCaptureS, fun a => D.laws_eqCaptureS a.1 a.2⟩
noncomputable def v_laws_eqCaptureS : Env := { ti := look tab, Γ := fns [(27, [], e_laws_eqCapture)], loop := fun b => match b with | 0 => some [.slot 5 (.int .i64)] | _ => none, cut := fun _ => none, deep := fun _ => false }
theorem c_laws_eqCaptureS : Contract Try.prog 73 e_laws_eqCaptureS.sig e_laws_eqCaptureS.F :=
  den_is (E := v_laws_eqCaptureS) ⟨tab_ti, tab_eq⟩ (fns_cons c_laws_eqCapture (fns_nil _)) mixed Try.func73 (by kernel_rfl) (by kernel_rfl) (fun x => by kernel_rfl)

def s_laws_eqAddressS : Sig := { params := [.val false y85, .val false y85], res := [.val false y4] }
noncomputable def e_laws_eqAddressS : Entry := ⟨s_laws_eqAddressS, fun a => D.laws_eqAddressS a.1 a.2⟩
noncomputable def v_laws_eqAddressS : Env := { ti := look tab, Γ := fns [(84, [], e_laws_eqAddress)], loop := fun b => match b with | 0 => some [.slot 5 (.int .i64)] | _ => none, cut := fun _ => none, deep := fun _ => false }
theorem c_laws_eqAddressS : Contract Try.prog 78 e_laws_eqAddressS.sig e_laws_eqAddressS.F :=
  den_is (E := v_laws_eqAddressS) ⟨tab_ti, tab_eq⟩ (fns_cons c_laws_eqAddress (fns_nil _)) mixed Try.func78 (by kernel_rfl) (by kernel_rfl) (fun x => by kernel_rfl)

def s_laws_eqEdition : Sig := { params := [.val true y87, .val true y87], res := [.val false y4] }
noncomputable def e_laws_eqEdition : Entry := ⟨s_laws_eqEdition, fun a => D.laws_eqEdition a.1 a.2⟩
noncomputable def v_laws_eqEdition : Env := { ti := look tab, Γ := fns [(73, [], e_laws_eqCaptureS), (78, [], e_laws_eqAddressS)], loop := fun _ => none, cut := fun _ => none, deep := fun _ => false }
theorem c_laws_eqEdition : Contract Try.prog 55 e_laws_eqEdition.sig e_laws_eqEdition.F :=
  den_is (E := v_laws_eqEdition) ⟨tab_ti, tab_eq⟩ (fns_cons c_laws_eqCaptureS (fns_cons c_laws_eqAddressS (fns_nil _))) mixed Try.func55 (by kernel_rfl) (by kernel_rfl) (fun x => by kernel_rfl)

def s_laws_FnExactIsEdition : Sig := { params := [.val true y82], res := [.val false y4] }
noncomputable def e_laws_FnExactIsEdition : Entry := ⟨s_laws_FnExactIsEdition, fun a => D.laws_FnExactIsEdition a⟩
noncomputable def v_laws_FnExactIsEdition : Env := { ti := look tab, Γ := fns [(51, [], e_laws_szEdition), (53, [], e_laws_toEdition), (79, [], e_spec_IsEdition), (80, [], e_impl_IsEdition), (55, [], e_laws_eqEdition)], loop := fun _ => none, cut := fun _ => none, deep := fun _ => false }
theorem c_laws_FnExactIsEdition : Contract Try.prog 13 e_laws_FnExactIsEdition.sig e_laws_FnExactIsEdition.F :=
  den_is (E := v_laws_FnExactIsEdition) ⟨tab_ti, tab_eq⟩ (fns_cons c_laws_szEdition (fns_cons c_laws_toEdition (fns_cons c_spec_IsEdition (fns_cons c_impl_IsEdition (fns_cons c_laws_eqEdition (fns_nil _)))))) mixed Try.func13 (by kernel_rfl) (by kernel_rfl) (fun x => by kernel_rfl)

theorem law_true (a : Tup (s_laws_FnExactIsEdition.params.map PTy.den)) (hok : argsOk Try.prog s_laws_FnExactIsEdition.params a) : D.laws_FnExactIsEdition a = some true := D.FnExactIsEdition_true a (Ty.ok_bd (P := Try.prog) (t := y82) (by kernel_rfl) hok.1)
theorem lifted (os : Os) (started : os.Started) (H : Type) (enc : TypeId × Value → H) :
    ReturnsInHanded {} Try.checked os 13 .any (Rows.fnExactIsEditionSpec.pre6 enc Try.prog Try.f13 Rows.fnExactIsEditionRow.domain false) (Rows.fnExactIsEditionSpec.post enc Try.prog Try.f13 false true false false) := by
  refine returnsInHanded_of_change_sized (C := Try.checked) (by kernel_rfl) started (by kernel_rfl) Try.func13
    (ChangeSpec.witness6 (enc := enc) (C := Try.checked) false ⟨#[], #[.agg #[.slice none 0 0, .int .i64 0, .int .i64 0, .slice none 0 0]], []⟩ 8 (by kernel_rfl) (by kernel_rfl) (by kernel_rfl) (by kernel_rfl)) ?_
  intro W base args ds gs before hval hW hcnd hsz _
  exact law_row (C := Try.checked) rfl c_laws_FnExactIsEdition (N := 8) (by kernel_rfl) (tb := 4) (by kernel_rfl) (by kernel_rfl) (by kernel_rfl) (by kernel_rfl) rfl
    (fun ds h => by
      have h : ds.length = 1 := h
      match ds, h with
      | [d0], _ => rfl)
    bulky_sizeOf (small := fun _ => True) (fun a ds hok _ _ => ⟨_, law_true a hok, rfl⟩) hval hW hsz trivial

theorem over : Rows.fnExactIsEditionRow.holds Try.pinned (OpenSpec.ofChange Rows.fnExactIsEditionSpec) :=
  OpenClaim.holds_of_wide 13 Try.f13 rfl rfl rfl rfl rfl rfl rfl ⟨rfl, rfl, rfl, rfl, rfl⟩ rfl rfl rfl rfl rfl (by kernel_rfl) Try.func13 (by kernel_rfl)
    (of_decide_eq_true (by kernel_rfl)) (by unfold Func.isWrapper; first | (rw [if_pos (by decide +kernel)]; kernel_rfl) | (rw [if_neg (by decide +kernel)]; exact ⟨rfl, rfl⟩))
    (fun os started H enc _ => lifted os started H enc)
end Go.Proofs.Ytomfcmpdjfdnhaa.SxFnExactIsEdition
namespace Go.Proofs.Ytomfcmpdjfdnhaa
theorem fnExactIsEdition_holds : Rows.FnExactIsEditionSaid := SxFnExactIsEdition.over
end Go.Proofs.Ytomfcmpdjfdnhaa
