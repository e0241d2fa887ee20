/- FnExactShowMove returns true for every input, and each input reads as it did. No condition. -/
import Derived.Test.YtfipolbgkppdjaaDoorRows
import Derived.Test.YtfipolbgkppdjaaDoorPuFnExactShowMove
import Derived.Test.YtfipolbgkppdjaaDoorEx
import Derived.WalkKit
import Derived.ProofKit
import Derived.ShutString
import Derived.SizedLaws
import Derived.Test.YtfipolbgkppdjaaDoorCards
import Derived.Test.YtfipolbgkppdjaaDoorTie
import Derived.SevenTiedAt
import Derived.JoinedCond
import Derived.Deep.DeepHandedRow
set_option linter.unusedVariables false
set_option maxRecDepth 100000
set_option maxHeartbeats 4000000
namespace Go.Proofs.YtfipolbgkppdjaaDoor.SxFnExactShowMove
open Go Go.Sh Go.RowKit
-- the laid tables: the instance of Ex
def y3 : Ty := .int .i64
def y4 : Ty := .bool
def y5 : Ty := .int .u8
def y9 : Ty := .str
def y23 : Ty := .pair y3 (.pair y3 y3)
def y27 : Ty := .pair y3 (.pair y3 y3)
def y29 : Ty := .pair y3 y27
def y32 : Ty := .slice 3 y3
def y34 : Ty := .pair y3 (.pair y32 y23)
def y38 : Ty := .pair y3 (.pair y32 y27)
def y58 : Ty := .slice 5 y5
def tab : List (TypeId × TI) := [(3, { size := 1, bytes := 8, agg := false, ty := some y3 }),
  (4, { size := 1, bytes := 1, agg := false, ty := some y4 }),
  (5, { size := 1, bytes := 1, agg := false, ty := some y5 }),
  (9, { size := 1, bytes := 16, agg := false, ty := some y9 }),
  (23, { size := 3, bytes := 24, agg := true, ty := some y23, fields := [(0, 3), (1, 3), (2, 3)] }),
  (27, { size := 3, bytes := 24, agg := true, ty := some y27, fields := [(0, 3), (1, 3), (2, 3)], eq := true }),
  (29, { size := 4, bytes := 32, agg := true, ty := some y29, fields := [(0, 3), (1, 27)], eq := true }),
  (32, { size := 1, bytes := 24, agg := false, ty := some y32, elem := some 3 }),
  (34, { size := 5, bytes := 56, agg := true, ty := some y34, fields := [(0, 3), (1, 32), (2, 23)] }),
  (38, { size := 5, bytes := 56, agg := true, ty := some y38, fields := [(0, 3), (1, 32), (2, 27)] }),
  (58, { size := 1, bytes := 24, agg := false, ty := some y58, elem := some 5 })]
def look : List (TypeId × TI) → TypeId → Option TI
  | [], _ => none
  | (k, i) :: r, t => if Nat.beq t k = true then some i else look r t
theorem look_ok {P : Program} : ∀ {l : List (TypeId × TI)}, (l.all fun p => tiOk P p.1 p.2) = true → ∀ t i, look l t = some i → tiOk P t i = true
  | [], _, t, i, h => by simp [look] at h
  | (k, j) :: r, h0, t, i, h => by
    simp only [List.all_cons, Bool.and_eq_true] at h0
    simp only [look] at h
    split at h
    · rename_i hk
      simp only [Option.some.injEq] at h
      have := Nat.eq_of_beq_eq_true hk
      subst this; subst h; exact h0.1
    · exact look_ok h0.2 t i h
theorem look_eq {P : Program} : ∀ {l : List (TypeId × TI)}, (l.all fun p => !p.2.eq || eqTop P p.1 p.2.ty) = true → ∀ t i, look l t = some i → i.eq = true → ∀ ty, i.ty = some ty → EqLaw P t ty.zero
  | [], _, t, i, h => by simp [look] at h
  | (k, j) :: r, h0, t, i, h => by
    simp only [List.all_cons, Bool.and_eq_true, Bool.or_eq_true, Bool.not_eq_true'] at h0
    simp only [look] at h
    split at h
    · rename_i hk
      simp only [Option.some.injEq] at h
      have := Nat.eq_of_beq_eq_true hk
      subst this; subst h
      intro he
      exact eqLaw_of (h0.1.resolve_left (by simp [he]))
    · exact look_eq h0.2 t i h
def same : List Nat → List Nat → Bool
  | [], [] => true
  | a :: x, b :: y => Nat.beq a b && same x y
  | _, _ => false
theorem same_eq : ∀ {x y : List Nat}, same x y = true → x = y
  | [], [], _ => rfl
  | a :: x, b :: y, h => by
    simp only [same, Bool.and_eq_true] at h
    rw [Nat.eq_of_beq_eq_true h.1, same_eq h.2]
  | [], _ :: _, h => by simp [same] at h
  | _ :: _, [], h => by simp [same] at h
def fns : List (FuncId × List FuncId × Entry) → FuncId → List FuncId → Option Entry
  | [], _, _ => none
  | (k, c, e) :: r, f, fs => if (Nat.beq f k && same fs c) = true then some e else fns r f fs
theorem fns_nil (P : Program) : ∀ f fs en, fns [] f fs = some en → Contract P f en.sig en.F := fun f fs en h => by simp [fns] at h
theorem fns_cons {P : Program} {k : FuncId} {c : List FuncId} {e : Entry} {r : List (FuncId × List FuncId × Entry)} (hk : Contract P k e.sig e.F) (hr : ∀ f fs en, fns r f fs = some en → Contract P f en.sig en.F) : ∀ f fs en, fns ((k, c, e) :: r) f fs = some en → Contract P f en.sig en.F := fun f fs en h => by
  simp only [fns] at h
  split at h
  · rename_i hf
    simp only [Bool.and_eq_true] at hf
    simp only [Option.some.injEq] at h
    have := Nat.eq_of_beq_eq_true hf.1
    subst this; subst h; exact hk
  · exact hr f fs en h

theorem tab_ti : ∀ t i, look tab t = some i → tiOk Tryd.prog t i = true := look_ok (by kernel_rfl)
theorem tab_eq : ∀ t i, look tab t = some i → i.eq = true → ∀ ty, i.ty = some ty → EqLaw Tryd.prog t ty.zero := look_eq (by kernel_rfl)
theorem mixed : Tryd.prog.follows .mixedOrders = true := by kernel_rfl
def s_laws_szIntS : Sig := { params := [.val false y32, .val false y3], res := [.val false y3] }
noncomputable def e_laws_szIntS : Entry := ⟨s_laws_szIntS, fun a => D.laws_szIntS a.1 a.2⟩
noncomputable def v_laws_szIntS : Env := { ti := look tab, Γ := fns [], loop := fun _ => none, cut := fun _ => none, deep := fun _ => false }
theorem c_laws_szIntS : Contract Tryd.prog 47 e_laws_szIntS.sig e_laws_szIntS.F :=
  den_is (E := v_laws_szIntS) ⟨tab_ti, tab_eq⟩ (fns_nil _) mixed Tryd.func47 (by kernel_rfl) (by kernel_rfl) (fun x => by kernel_rfl)

def s_laws_szResource : Sig := { params := [.val true y34, .val false y3], res := [.val false y3] }
noncomputable def e_laws_szResource : Entry := ⟨s_laws_szResource, fun a => D.laws_szResource a.1 a.2⟩
noncomputable def v_laws_szResource : Env := { ti := look tab, Γ := fns [(47, [], e_laws_szIntS)], loop := fun _ => none, cut := fun _ => none, deep := fun _ => false }
theorem c_laws_szResource : Contract Tryd.prog 13 e_laws_szResource.sig e_laws_szResource.F :=
  den_is (E := v_laws_szResource) ⟨tab_ti, tab_eq⟩ (fns_cons c_laws_szIntS (fns_nil _)) mixed Tryd.func13 (by kernel_rfl) (by kernel_rfl) (fun x => by kernel_rfl)

def s_laws_toIntS : Sig := { params := [.val false y32], res := [.row 3 y3 false] }
noncomputable def e_laws_toIntS : Entry := ⟨s_laws_toIntS, fun a => D.laws_toIntS a⟩
noncomputable def v_laws_toIntS : Env := { ti := look tab, Γ := fns [], loop := fun b => match b with | 0 => some [.slot 4 (.int .i64), .vec 3 3 y3 false] | _ => none, cut := fun _ => none, deep := fun _ => false }
theorem c_laws_toIntS : Contract Tryd.prog 49 e_laws_toIntS.sig e_laws_toIntS.F :=
  den_is (E := v_laws_toIntS) ⟨tab_ti, tab_eq⟩ (fns_nil _) mixed Tryd.func49 (by kernel_rfl) (by kernel_rfl) (fun x => by kernel_rfl)

def s_laws_toAddress : Sig := { params := [.val true y23], res := [.val true y27] }
noncomputable def e_laws_toAddress : Entry := ⟨s_laws_toAddress, fun a => D.laws_toAddress a⟩
noncomputable def v_laws_toAddress : Env := { ti := look tab, Γ := fns [], loop := fun _ => none, cut := fun _ => none, deep := fun _ => false }
theorem c_laws_toAddress : Contract Tryd.prog 43 e_laws_toAddress.sig e_laws_toAddress.F :=
  den_is (E := v_laws_toAddress) ⟨tab_ti, tab_eq⟩ (fns_nil _) mixed Tryd.func43 (by kernel_rfl) (by kernel_rfl) (fun x => by kernel_rfl)

def s_laws_toResource : Sig := { params := [.val true y34], res := [.val false y3, .row 3 y3 false, .val false y3, .val false y3, .val false y3], rgroups := [some 5] }
noncomputable def e_laws_toResource : Entry := ⟨s_laws_toResource, fun a => D.laws_toResource a⟩
noncomputable def v_laws_toResource : Env := { ti := look tab, Γ := fns [(49, [], e_laws_toIntS), (43, [], e_laws_toAddress)], loop := fun _ => none, cut := fun _ => none, deep := fun _ => false }
theorem c_laws_toResource : Contract Tryd.prog 15 e_laws_toResource.sig e_laws_toResource.F :=
  den_is (E := v_laws_toResource) ⟨tab_ti, tab_eq⟩ (fns_cons c_laws_toIntS (fns_cons c_laws_toAddress (fns_nil _))) mixed Tryd.func15 (by kernel_rfl) (by kernel_rfl) (fun x => by kernel_rfl)

def s_spec_l1In : Sig := { params := [.val false y3, .val false y3, .val false y3], res := [.val false y4] }
noncomputable def e_spec_l1In : Entry := ⟨s_spec_l1In, fun a => D.spec_l1In a.1 a.2.1 a.2.2⟩
noncomputable def v_spec_l1In : Env := { ti := look tab, Γ := fns [], loop := fun _ => none, cut := fun _ => none, deep := fun _ => false }
theorem c_spec_l1In : Contract Tryd.prog 39 e_spec_l1In.sig e_spec_l1In.F :=
  den_is (E := v_spec_l1In) ⟨tab_ti, tab_eq⟩ (fns_nil _) mixed Tryd.func39 (by kernel_rfl) (by kernel_rfl) (fun x => by kernel_rfl)

def s_spec_l5Bytes : Sig := { params := [.val false y32], res := [.val false y4] }
noncomputable def e_spec_l5Bytes : Entry := ⟨s_spec_l5Bytes, fun a => D.spec_l5Bytes a⟩
noncomputable def v_spec_l5Bytes : Env := { ti := look tab, Γ := fns [(39, [], e_spec_l1In)], loop := fun b => match b with | 0 => some [.slot 3 (.int .i64)] | _ => none, cut := fun _ => none, deep := fun _ => false }
theorem c_spec_l5Bytes : Contract Tryd.prog 71 e_spec_l5Bytes.sig e_spec_l5Bytes.F :=
  den_is (E := v_spec_l5Bytes) ⟨tab_ti, tab_eq⟩ (fns_cons c_spec_l1In (fns_nil _)) mixed Tryd.func71 (by kernel_rfl) (by kernel_rfl) (fun x => by kernel_rfl)

def s_spec_IsAddress : Sig := { params := [.val true y27], res := [.val false y4] }
noncomputable def e_spec_IsAddress : Entry := ⟨s_spec_IsAddress, fun a => D.spec_IsAddress a⟩
noncomputable def v_spec_IsAddress : Env := { ti := look tab, Γ := fns [(39, [], e_spec_l1In)], loop := fun _ => none, cut := fun _ => none, deep := fun _ => false }
theorem c_spec_IsAddress : Contract Tryd.prog 40 e_spec_IsAddress.sig e_spec_IsAddress.F :=
  den_is (E := v_spec_IsAddress) ⟨tab_ti, tab_eq⟩ (fns_cons c_spec_l1In (fns_nil _)) mixed Tryd.func40 (by kernel_rfl) (by kernel_rfl) (fun x => by kernel_rfl)

def s_spec_IsResource : Sig := { params := [.val true y38], res := [.val false y4] }
noncomputable def e_spec_IsResource : Entry := ⟨s_spec_IsResource, fun a => D.spec_IsResource a⟩
noncomputable def v_spec_IsResource : Env := { ti := look tab, Γ := fns [(39, [], e_spec_l1In), (71, [], e_spec_l5Bytes), (40, [], e_spec_IsAddress)], loop := fun _ => none, cut := fun _ => none, deep := fun _ => false }
theorem c_spec_IsResource : Contract Tryd.prog 48 e_spec_IsResource.sig e_spec_IsResource.F :=
  den_is (E := v_spec_IsResource) ⟨tab_ti, tab_eq⟩ (fns_cons c_spec_l1In (fns_cons c_spec_l5Bytes (fns_cons c_spec_IsAddress (fns_nil _)))) mixed Tryd.func48 (by kernel_rfl) (by kernel_rfl) (fun x => by kernel_rfl)

def s_spec_FormatInt : Sig := { params := [.val false y3], res := [.val false y9] }
noncomputable def e_spec_FormatInt : Entry := ⟨s_spec_FormatInt, fun a => D.spec_FormatInt a⟩
noncomputable def v_spec_FormatInt : Env := { ti := look tab, Γ := fns [], loop := fun b => match b with | 0 => some [.slot 3 (.str), .slot 4 (.int .i64)] | _ => none, cut := fun _ => none, deep := fun _ => false }
theorem c_spec_FormatInt : Contract Tryd.prog 41 e_spec_FormatInt.sig e_spec_FormatInt.F :=
  den_is (E := v_spec_FormatInt) ⟨tab_ti, tab_eq⟩ (fns_nil _) mixed Tryd.func41 (by kernel_rfl) (by kernel_rfl) (fun x => by kernel_rfl)

def s_spec_AddressText : Sig := { params := [.val true y27], res := [.val false y9] }
noncomputable def e_spec_AddressText : Entry := ⟨s_spec_AddressText, fun a => D.spec_AddressText a⟩
noncomputable def v_spec_AddressText : Env := { ti := look tab, Γ := fns [(40, [], e_spec_IsAddress), (41, [], e_spec_FormatInt)], loop := fun _ => none, cut := fun _ => none, deep := fun _ => false }
theorem c_spec_AddressText : Contract Tryd.prog 42 e_spec_AddressText.sig e_spec_AddressText.F :=
  den_is (E := v_spec_AddressText) ⟨tab_ti, tab_eq⟩ (fns_cons c_spec_IsAddress (fns_cons c_spec_FormatInt (fns_nil _))) mixed Tryd.func42 (by kernel_rfl) (by kernel_rfl) (fun x => by kernel_rfl)

def s_spec_ShownText : Sig := { params := [.val true y29], res := [.val false y9] }
noncomputable def e_spec_ShownText : Entry := ⟨s_spec_ShownText, fun a => D.spec_ShownText a⟩
noncomputable def v_spec_ShownText : Env := { ti := look tab, Γ := fns [(39, [], e_spec_l1In), (40, [], e_spec_IsAddress), (41, [], e_spec_FormatInt), (42, [], e_spec_AddressText)], loop := fun _ => none, cut := fun _ => none, deep := fun _ => false }
theorem c_spec_ShownText : Contract Tryd.prog 10 e_spec_ShownText.sig e_spec_ShownText.F :=
  den_is (E := v_spec_ShownText) ⟨tab_ti, tab_eq⟩ (fns_cons c_spec_l1In (fns_cons c_spec_IsAddress (fns_cons c_spec_FormatInt (fns_cons c_spec_AddressText (fns_nil _))))) mixed Tryd.func10 (by kernel_rfl) (by kernel_rfl) (fun x => by kernel_rfl)

def s_spec_ShowMove : Sig := { params := [.val true y38, .val false y3], res := [.val false y9] }
noncomputable def e_spec_ShowMove : Entry := ⟨s_spec_ShowMove, fun a => D.spec_ShowMove a.1 a.2⟩
noncomputable def v_spec_ShowMove : Env := { ti := look tab, Γ := fns [(48, [], e_spec_IsResource), (10, [], e_spec_ShownText)], loop := fun _ => none, cut := fun _ => none, deep := fun _ => false }
theorem c_spec_ShowMove : Contract Tryd.prog 14 e_spec_ShowMove.sig e_spec_ShowMove.F :=
  den_is (E := v_spec_ShowMove) ⟨tab_ti, tab_eq⟩ (fns_cons c_spec_IsResource (fns_cons c_spec_ShownText (fns_nil _))) mixed Tryd.func14 (by kernel_rfl) (by kernel_rfl) (fun x => by kernel_rfl)

def s_impl_InRange : Sig := { params := [.val false y3, .val false y3, .val false y3], res := [.val false y4] }
noncomputable def e_impl_InRange : Entry := ⟨s_impl_InRange, fun a => D.impl_InRange a.1 a.2.1 a.2.2⟩
noncomputable def v_impl_InRange : Env := { ti := look tab, Γ := fns [], loop := fun _ => none, cut := fun _ => none, deep := fun _ => false }
theorem c_impl_InRange : Contract Tryd.prog 44 e_impl_InRange.sig e_impl_InRange.F :=
  den_is (E := v_impl_InRange) ⟨tab_ti, tab_eq⟩ (fns_nil _) mixed Tryd.func44 (by kernel_rfl) (by kernel_rfl) (fun x => by kernel_rfl)

def s_impl_allIn : Sig := { params := [.val false y32, .val false y3, .val false y3], res := [.val false y4] }
noncomputable def e_impl_allIn : Entry := ⟨s_impl_allIn, fun a => D.impl_allIn a.1 a.2.1 a.2.2⟩
noncomputable def v_impl_allIn : Env := { ti := look tab, Γ := fns [(44, [], e_impl_InRange)], loop := fun b => match b with | 0 => some [.slot 11 (.int .i64)] | _ => none, cut := fun _ => none, deep := fun _ => false }
theorem c_impl_allIn : Contract Tryd.prog 69 e_impl_allIn.sig e_impl_allIn.F :=
  den_is (E := v_impl_allIn) ⟨tab_ti, tab_eq⟩ (fns_cons c_impl_InRange (fns_nil _)) mixed Tryd.func69 (by kernel_rfl) (by kernel_rfl) (fun x => by kernel_rfl)

def s_impl_IsAddress : Sig := { params := [.val true y27], res := [.val false y4] }
noncomputable def e_impl_IsAddress : Entry := ⟨s_impl_IsAddress, fun a => D.impl_IsAddress a⟩
noncomputable def v_impl_IsAddress : Env := { ti := look tab, Γ := fns [(44, [], e_impl_InRange)], loop := fun _ => none, cut := fun _ => none, deep := fun _ => false }
theorem c_impl_IsAddress : Contract Tryd.prog 45 e_impl_IsAddress.sig e_impl_IsAddress.F :=
  den_is (E := v_impl_IsAddress) ⟨tab_ti, tab_eq⟩ (fns_cons c_impl_InRange (fns_nil _)) mixed Tryd.func45 (by kernel_rfl) (by kernel_rfl) (fun x => by kernel_rfl)

def s_impl_IsResource : Sig := { params := [.val true y38], res := [.val false y4] }
noncomputable def e_impl_IsResource : Entry := ⟨s_impl_IsResource, fun a => D.impl_IsResource a⟩
noncomputable def v_impl_IsResource : Env := { ti := look tab, Γ := fns [(69, [], e_impl_allIn), (45, [], e_impl_IsAddress)], loop := fun _ => none, cut := fun _ => none, deep := fun _ => false }
theorem c_impl_IsResource : Contract Tryd.prog 38 e_impl_IsResource.sig e_impl_IsResource.F :=
  den_is (E := v_impl_IsResource) ⟨tab_ti, tab_eq⟩ (fns_cons c_impl_allIn (fns_cons c_impl_IsAddress (fns_nil _))) mixed Tryd.func38 (by kernel_rfl) (by kernel_rfl) (fun x => by kernel_rfl)

def s_strconv_Itoa : Sig := { params := [.val false y3], res := [.val false y9] }
noncomputable def e_strconv_Itoa : Entry := ⟨s_strconv_Itoa, fun a => D.strconv_Itoa a⟩
theorem c_strconv_Itoa : Contract Tryd.prog 70 e_strconv_Itoa.sig e_strconv_Itoa.F := Eq.mp (by kernel_rfl) (Go.Proofs.YtfipolbgkppdjaaDoor.Ex.itoa_is)

def s_impl_FormatInt : Sig := { params := [.val false y3], res := [.val false y9] }
noncomputable def e_impl_FormatInt : Entry := ⟨s_impl_FormatInt, fun a => D.impl_FormatInt a⟩
noncomputable def v_impl_FormatInt : Env := { ti := look tab, Γ := fns [(70, [], e_strconv_Itoa)], loop := fun _ => none, cut := fun _ => none, deep := fun _ => false }
theorem c_impl_FormatInt : Contract Tryd.prog 46 e_impl_FormatInt.sig e_impl_FormatInt.F :=
  den_is (E := v_impl_FormatInt) ⟨tab_ti, tab_eq⟩ (fns_cons c_strconv_Itoa (fns_nil _)) mixed Tryd.func46 (by kernel_rfl) (by kernel_rfl) (fun x => by kernel_rfl)

def s_impl_AddressText : Sig := { params := [.val true y27], res := [.val false y9] }
noncomputable def e_impl_AddressText : Entry := ⟨s_impl_AddressText, fun a => D.impl_AddressText a⟩
noncomputable def v_impl_AddressText : Env := { ti := look tab, Γ := fns [(45, [], e_impl_IsAddress), (46, [], e_impl_FormatInt)], loop := fun _ => none, cut := fun _ => none, deep := fun _ => false }
theorem c_impl_AddressText : Contract Tryd.prog 35 e_impl_AddressText.sig e_impl_AddressText.F :=
  den_is (E := v_impl_AddressText) ⟨tab_ti, tab_eq⟩ (fns_cons c_impl_IsAddress (fns_cons c_impl_FormatInt (fns_nil _))) mixed Tryd.func35 (by kernel_rfl) (by kernel_rfl) (fun x => by kernel_rfl)

def s_impl_ShownText : Sig := { params := [.val true y29], res := [.val false y9] }
noncomputable def e_impl_ShownText : Entry := ⟨s_impl_ShownText, fun a => D.impl_ShownText a⟩
noncomputable def v_impl_ShownText : Env := { ti := look tab, Γ := fns [(44, [], e_impl_InRange), (45, [], e_impl_IsAddress), (46, [], e_impl_FormatInt), (35, [], e_impl_AddressText)], loop := fun _ => none, cut := fun _ => none, deep := fun _ => false }
theorem c_impl_ShownText : Contract Tryd.prog 12 e_impl_ShownText.sig e_impl_ShownText.F :=
  den_is (E := v_impl_ShownText) ⟨tab_ti, tab_eq⟩ (fns_cons c_impl_InRange (fns_cons c_impl_IsAddress (fns_cons c_impl_FormatInt (fns_cons c_impl_AddressText (fns_nil _))))) mixed Tryd.func12 (by kernel_rfl) (by kernel_rfl) (fun x => by kernel_rfl)

def s_impl_ShowMove : Sig := { params := [.val true y38, .val false y3], res := [.val false y9] }
noncomputable def e_impl_ShowMove : Entry := ⟨s_impl_ShowMove, fun a => D.impl_ShowMove a.1 a.2⟩
noncomputable def v_impl_ShowMove : Env := { ti := look tab, Γ := fns [(38, [], e_impl_IsResource), (12, [], e_impl_ShownText)], loop := fun _ => none, cut := fun _ => none, deep := fun _ => false }
theorem c_impl_ShowMove : Contract Tryd.prog 16 e_impl_ShowMove.sig e_impl_ShowMove.F :=
  den_is (E := v_impl_ShowMove) ⟨tab_ti, tab_eq⟩ (fns_cons c_impl_IsResource (fns_cons c_impl_ShownText (fns_nil _))) mixed Tryd.func16 (by kernel_rfl) (by kernel_rfl) (fun x => by kernel_rfl)

def s_laws_eqIntS : Sig := { params := [.val false y32, .val false y32], res := [.val false y4] }
noncomputable def e_laws_eqIntS : Entry := ⟨s_laws_eqIntS, fun a => D.laws_eqIntS a.1 a.2⟩
noncomputable def v_laws_eqIntS : Env := { ti := look tab, Γ := fns [], loop := fun b => match b with | 0 => some [.slot 5 (.int .i64)] | _ => none, cut := fun _ => none, deep := fun _ => false }
theorem c_laws_eqIntS : Contract Tryd.prog 50 e_laws_eqIntS.sig e_laws_eqIntS.F :=
  den_is (E := v_laws_eqIntS) ⟨tab_ti, tab_eq⟩ (fns_nil _) mixed Tryd.func50 (by kernel_rfl) (by kernel_rfl) (fun x => by kernel_rfl)

def s_laws_eqAddress : Sig := { params := [.val true y27, .val true y27], res := [.val false y4] }
noncomputable def e_laws_eqAddress : Entry := ⟨s_laws_eqAddress, fun a => D.laws_eqAddress a.1 a.2⟩
noncomputable def v_laws_eqAddress : Env := { ti := look tab, Γ := fns [], loop := fun _ => none, cut := fun _ => none, deep := fun _ => false }
theorem c_laws_eqAddress : Contract Tryd.prog 51 e_laws_eqAddress.sig e_laws_eqAddress.F :=
  den_is (E := v_laws_eqAddress) ⟨tab_ti, tab_eq⟩ (fns_nil _) mixed Tryd.func51 (by kernel_rfl) (by kernel_rfl) (fun x => by kernel_rfl)

def s_laws_eqResource : Sig := { params := [.val true y38, .val true y38], res := [.val false y4] }
noncomputable def e_laws_eqResource : Entry := ⟨s_laws_eqResource, fun a => D.laws_eqResource a.1 a.2⟩
noncomputable def v_laws_eqResource : Env := { ti := look tab, Γ := fns [(50, [], e_laws_eqIntS), (51, [], e_laws_eqAddress)], loop := fun _ => none, cut := fun _ => none, deep := fun _ => false }
theorem c_laws_eqResource : Contract Tryd.prog 17 e_laws_eqResource.sig e_laws_eqResource.F :=
  den_is (E := v_laws_eqResource) ⟨tab_ti, tab_eq⟩ (fns_cons c_laws_eqIntS (fns_cons c_laws_eqAddress (fns_nil _))) mixed Tryd.func17 (by kernel_rfl) (by kernel_rfl) (fun x => by kernel_rfl)

def s_laws_FnExactShowMove : Sig := { params := [.val true y34, .val false y3], res := [.val false y4] }
noncomputable def e_laws_FnExactShowMove : Entry := ⟨s_laws_FnExactShowMove, fun a => D.laws_FnExactShowMove a.1 a.2⟩
noncomputable def v_laws_FnExactShowMove : Env := { ti := look tab, Γ := fns [(13, [], e_laws_szResource), (15, [], e_laws_toResource), (14, [], e_spec_ShowMove), (16, [], e_impl_ShowMove), (17, [], e_laws_eqResource)], loop := fun _ => none, cut := fun _ => none, deep := fun _ => false }
theorem c_laws_FnExactShowMove : Contract Tryd.prog 4 e_laws_FnExactShowMove.sig e_laws_FnExactShowMove.F :=
  den_is (E := v_laws_FnExactShowMove) ⟨tab_ti, tab_eq⟩ (fns_cons c_laws_szResource (fns_cons c_laws_toResource (fns_cons c_spec_ShowMove (fns_cons c_impl_ShowMove (fns_cons c_laws_eqResource (fns_nil _)))))) mixed Tryd.func4 (by kernel_rfl) (by kernel_rfl) (fun x => by kernel_rfl)

theorem law_true (a : Tup (s_laws_FnExactShowMove.params.map PTy.den)) (hok : argsOk Tryd.prog s_laws_FnExactShowMove.params a) : D.laws_FnExactShowMove a.1 a.2 = some true := D.FnExactShowMove_true a.1 a.2 (Ty.ok_bd (P := Tryd.prog) (t := y34) (by kernel_rfl) hok.1) (Ty.ok_bd (P := Tryd.prog) (t := y3) (by kernel_rfl) hok.2.1)
theorem witness_row (os : Os) {H : Type} (enc : TypeId × Value → H) :
    (OpenSpec.ofChange Rows.fnExactShowMoveSpec).preRow enc Tryd.prog Tryd.f4 Rows.fnExactShowMoveRow.domain false Rows.fnExactShowMoveRow.laid ((Ex.laidWorld os).forCall (fun _ _ => 0) ⟨#[], #[.agg #[.int .i64 0, .slice none 0 0, .int .i64 0, .int .i64 0, .int .i64 0], .int .i64 0], []⟩).memory #[.agg #[.int .i64 0, .slice none 0 0, .int .i64 0, .int .i64 0, .int .i64 0], .int .i64 0] := by
  have hw : (DataW.whole enc Tryd.prog ((Ex.laidWorld os).forCall (fun _ _ => 0) ⟨#[], #[.agg #[.int .i64 0, .slice none 0 0, .int .i64 0, .int .i64 0, .int .i64 0], .int .i64 0], []⟩).memory Tryd.f4.params.toList (OpenSpec.ofChange Rows.fnExactShowMoveSpec).vars false (#[.agg #[.int .i64 0, .slice none 0 0, .int .i64 0, .int .i64 0, .int .i64 0], .int .i64 0] : Array Value).toList 8).map (fun x => (x.1, x.2.1)) =
      some ([.agg [.lit (.int .i64 0), .nil, .agg [.lit (.int .i64 0), .lit (.int .i64 0), .lit (.int .i64 0)]], .lit (.int .i64 0)], []) := by kernel_rfl
  obtain ⟨⟨x1, x2, x3⟩, hx, hx1⟩ := Option.map_eq_some_iff.1 hw
  simp only [Prod.mk.injEq] at hx1
  obtain ⟨rfl, rfl⟩ := hx1
  exact OpenSpec.preRow_of_cond 8 hx (by kernel_rfl) (fun k hk => by cases hk) (by kernel_rfl) (Ex.laid_met os _)
theorem lifted (os : Os) (started : os.Started) (H : Type) (enc : TypeId × Value → H) (F0 : Stop.Interp) :
    ReturnsInHanded {} Tryd.checked os 4 .any ((OpenSpec.ofChange Rows.fnExactShowMoveSpec).preRow enc Tryd.prog Tryd.f4 Rows.fnExactShowMoveRow.domain false Rows.fnExactShowMoveRow.laid) (((OpenSpec.ofChange Rows.fnExactShowMoveSpec).at F0).post enc Tryd.prog Tryd.f4 false true false false) := by
  refine returnsInHanded_of_row (C := Tryd.checked) (s := OpenSpec.ofChange Rows.fnExactShowMoveSpec) (by kernel_rfl) started (by kernel_rfl) Tryd.func4
    (witness_row_at (enc := enc) (C := Tryd.checked) false (Ex.laidWorld os) #[.agg #[.int .i64 0, .slice none 0 0, .int .i64 0, .int .i64 0, .int .i64 0], .int .i64 0] rfl (by kernel_rfl) (by kernel_rfl) (by kernel_rfl) (witness_row os enc)) ?_
  intro W base args ds gs before hval hW hcnd _ hsz hL hsh _
  exact law_row (C := Tryd.checked) rfl c_laws_FnExactShowMove (N := 8) (by kernel_rfl) (tb := 4) (by kernel_rfl) (by kernel_rfl) (by kernel_rfl) (by kernel_rfl) rfl
    (fun ds h => by
      have h : ds.length = 2 := h
      match ds, h with
      | [d0, d1], _ => rfl)
    bulky_sizeOf (small := fun _ => True) (fun a ds hok _ _ => ⟨_, law_true a hok, rfl⟩) hval hW hsz trivial (Ex.tabs_ok hL hsh)

theorem over : Rows.FnExactShowMoveSaid :=
  OpenClaim.holds_of_cond 4 Tryd.f4 rfl rfl rfl rfl rfl rfl rfl ⟨rfl, rfl, rfl, rfl, rfl⟩ rfl rfl rfl rfl rfl (by kernel_rfl) Tryd.func4 (by kernel_rfl)
    (of_decide_eq_true (by kernel_rfl)) (by unfold Func.isWrapper; first | (rw [if_pos (by decide +kernel)]; kernel_rfl) | (rw [if_neg (by decide +kernel)]; exact ⟨rfl, rfl⟩))
    (fun os started H enc _ F0 => by rw [OpenClaim.pre_eq_preRow]; exact lifted os started H enc F0)
theorem card : Rows.FnExactShowMoveCardSaid :=
  Claim7.holds_tied_plain_at .later [] [.data, .data, .data] true Rows.fnExactShowMoveCard.stood.harness false
    over (fun _ h => by cases h) (by kernel_rfl) (fun _ h => by cases h) fnExactShowMove_row_tie rfl ⟨rfl, rfl⟩ (by kernel_rfl) rfl
    (fun f fn hf hfn => by
      obtain rfl : f = 4 := Option.some.inj ((show Tryd.prog.funcNamed "loop.example/g03002/laws.FnExactShowMove" = some 4 by kernel_rfl).symm.trans hf) |>.symm
      obtain rfl : fn = Tryd.f4 := (Option.some.inj (Tryd.func4.symm.trans hfn)).symm
      exact ⟨by kernel_rfl, fun j t ht => by
        have hm : t ∈ [34, 3] := by
          have := Array.mem_of_getElem? ht
          exact List.mem_of_elem_eq_true (by
            have h2 : t ∈ Tryd.f4.params.toList := by simpa using this
            rw [show Tryd.f4.params.toList = [34, 3] by kernel_rfl] at h2
            exact List.elem_eq_true_of_mem h2)
        have hall : ([34, 3].all fun u => !Tryd.prog.wantsStandIn u) = true := by kernel_rfl
        exact (show Tryd.prog.wantsStandIn t = false by simpa using List.all_eq_true.1 hall t hm)⟩)
    (by kernel_rfl)
end Go.Proofs.YtfipolbgkppdjaaDoor.SxFnExactShowMove
namespace Go.Proofs.YtfipolbgkppdjaaDoor
theorem fnExactShowMove_holds : Rows.FnExactShowMoveCardSaid := SxFnExactShowMove.card
end Go.Proofs.YtfipolbgkppdjaaDoor
