/- FnShown returns true for every input, and each input reads as it did. No condition. -/
import Derived.Test.YtfipolbgkppdjaaDoorRows
import Derived.Test.YtfipolbgkppdjaaDoorPuFnShown
import Derived.Test.YtfipolbgkppdjaaDoorEx
import Derived.WalkKit
import Derived.ProofKit
import Derived.ShutString
import Derived.SizedLaws
import Derived.Test.YtfipolbgkppdjaaDoorCards
import Derived.Test.YtfipolbgkppdjaaDoorTie
import Derived.SevenTiedAt
import Derived.JoinedCond
import Derived.Deep.DeepHandedRow
set_option linter.unusedVariables false
set_option maxRecDepth 100000
set_option maxHeartbeats 4000000
namespace Go.Proofs.YtfipolbgkppdjaaDoor.SxFnShown
open Go Go.Sh Go.RowKit
-- the laid tables: the instance of Ex
def y3 : Ty := .int .i64
def y4 : Ty := .bool
def y5 : Ty := .int .u8
def y9 : Ty := .str
def y27 : Ty := .pair y3 (.pair y3 y3)
def y29 : Ty := .pair y3 y27
def y32 : Ty := .slice 3 y3
def y38 : Ty := .pair y3 (.pair y32 y27)
def y53 : Ty := .slice 9 y9
def y58 : Ty := .slice 5 y5
def y105 : Ty := .pair y58 (.pair y3 y3)
def tab : List (TypeId × TI) := [(3, { size := 1, bytes := 8, agg := false, ty := some y3 }),
  (4, { size := 1, bytes := 1, agg := false, ty := some y4 }),
  (5, { size := 1, bytes := 1, agg := false, ty := some y5 }),
  (9, { size := 1, bytes := 16, agg := false, ty := some y9 }),
  (27, { size := 3, bytes := 24, agg := true, ty := some y27, fields := [(0, 3), (1, 3), (2, 3)], eq := true }),
  (29, { size := 4, bytes := 32, agg := true, ty := some y29, fields := [(0, 3), (1, 27)], eq := true }),
  (32, { size := 1, bytes := 24, agg := false, ty := some y32, elem := some 3 }),
  (38, { size := 5, bytes := 56, agg := true, ty := some y38, fields := [(0, 3), (1, 32), (2, 27)] }),
  (53, { size := 1, bytes := 24, agg := false, ty := some y53, elem := some 9 }),
  (58, { size := 1, bytes := 24, agg := false, ty := some y58, elem := some 5 }),
  (105, { size := 3, bytes := 40, agg := true, ty := some y105, fields := [(0, 58), (1, 3), (2, 3)] })]
def look : List (TypeId × TI) → TypeId → Option TI
  | [], _ => none
  | (k, i) :: r, t => if Nat.beq t k = true then some i else look r t
theorem look_ok {P : Program} : ∀ {l : List (TypeId × TI)}, (l.all fun p => tiOk P p.1 p.2) = true → ∀ t i, look l t = some i → tiOk P t i = true
  | [], _, t, i, h => by simp [look] at h
  | (k, j) :: r, h0, t, i, h => by
    simp only [List.all_cons, Bool.and_eq_true] at h0
    simp only [look] at h
    split at h
    · rename_i hk
      simp only [Option.some.injEq] at h
      have := Nat.eq_of_beq_eq_true hk
      subst this; subst h; exact h0.1
    · exact look_ok h0.2 t i h
theorem look_eq {P : Program} : ∀ {l : List (TypeId × TI)}, (l.all fun p => !p.2.eq || eqTop P p.1 p.2.ty) = true → ∀ t i, look l t = some i → i.eq = true → ∀ ty, i.ty = some ty → EqLaw P t ty.zero
  | [], _, t, i, h => by simp [look] at h
  | (k, j) :: r, h0, t, i, h => by
    simp only [List.all_cons, Bool.and_eq_true, Bool.or_eq_true, Bool.not_eq_true'] at h0
    simp only [look] at h
    split at h
    · rename_i hk
      simp only [Option.some.injEq] at h
      have := Nat.eq_of_beq_eq_true hk
      subst this; subst h
      intro he
      exact eqLaw_of (h0.1.resolve_left (by simp [he]))
    · exact look_eq h0.2 t i h
def same : List Nat → List Nat → Bool
  | [], [] => true
  | a :: x, b :: y => Nat.beq a b && same x y
  | _, _ => false
theorem same_eq : ∀ {x y : List Nat}, same x y = true → x = y
  | [], [], _ => rfl
  | a :: x, b :: y, h => by
    simp only [same, Bool.and_eq_true] at h
    rw [Nat.eq_of_beq_eq_true h.1, same_eq h.2]
  | [], _ :: _, h => by simp [same] at h
  | _ :: _, [], h => by simp [same] at h
def fns : List (FuncId × List FuncId × Entry) → FuncId → List FuncId → Option Entry
  | [], _, _ => none
  | (k, c, e) :: r, f, fs => if (Nat.beq f k && same fs c) = true then some e else fns r f fs
theorem fns_nil (P : Program) : ∀ f fs en, fns [] f fs = some en → Contract P f en.sig en.F := fun f fs en h => by simp [fns] at h
theorem fns_cons {P : Program} {k : FuncId} {c : List FuncId} {e : Entry} {r : List (FuncId × List FuncId × Entry)} (hk : Contract P k e.sig e.F) (hr : ∀ f fs en, fns r f fs = some en → Contract P f en.sig en.F) : ∀ f fs en, fns ((k, c, e) :: r) f fs = some en → Contract P f en.sig en.F := fun f fs en h => by
  simp only [fns] at h
  split at h
  · rename_i hf
    simp only [Bool.and_eq_true] at hf
    simp only [Option.some.injEq] at h
    have := Nat.eq_of_beq_eq_true hf.1
    subst this; subst h; exact hk
  · exact hr f fs en h

theorem tab_ti : ∀ t i, look tab t = some i → tiOk Tryd.prog t i = true := look_ok (by kernel_rfl)
theorem tab_eq : ∀ t i, look tab t = some i → i.eq = true → ∀ ty, i.ty = some ty → EqLaw Tryd.prog t ty.zero := look_eq (by kernel_rfl)
theorem mixed : Tryd.prog.follows .mixedOrders = true := by kernel_rfl
def s_laws_big : Sig := { params := [.val false y58], res := [.val false y4] }
noncomputable def e_laws_big : Entry := ⟨s_laws_big, fun a => D.laws_big a⟩
noncomputable def v_laws_big : Env := { ti := look tab, Γ := fns [], loop := fun _ => none, cut := fun _ => none, deep := fun _ => false }
theorem c_laws_big : Contract Tryd.prog 33 e_laws_big.sig e_laws_big.F :=
  den_is (E := v_laws_big) ⟨tab_ti, tab_eq⟩ (fns_nil _) mixed Tryd.func33 (by kernel_rfl) (by kernel_rfl) (fun x => by kernel_rfl)

def s_spec_l1New : Sig := { params := [.val false y58], res := [.ptr y105] }
noncomputable def e_spec_l1New : Entry := ⟨s_spec_l1New, fun a => D.spec_l1New a⟩
noncomputable def v_spec_l1New : Env := { ti := look tab, Γ := fns [], loop := fun b => match b with | 0 => some [.slot 3 (.int .i64), .slot 4 (.int .i64)] | _ => none, cut := fun _ => none, deep := fun _ => false }
theorem c_spec_l1New : Contract Tryd.prog 62 e_spec_l1New.sig e_spec_l1New.F :=
  den_is (E := v_spec_l1New) ⟨tab_ti, tab_eq⟩ (fns_nil _) mixed Tryd.func62 (by kernel_rfl) (by kernel_rfl) (fun x => by kernel_rfl)

def s_spec_l1Byte : Sig := { params := [.ioptr y105], res := [.val false y3] }
noncomputable def e_spec_l1Byte : Entry := ⟨s_spec_l1Byte, fun a => D.spec_l1Byte a⟩
noncomputable def v_spec_l1Byte : Env := { ti := look tab, Γ := fns [], loop := fun _ => none, cut := fun _ => none, deep := fun _ => false }
theorem c_spec_l1Byte : Contract Tryd.prog 87 e_spec_l1Byte.sig e_spec_l1Byte.F :=
  den_is (E := v_spec_l1Byte) ⟨tab_ti, tab_eq⟩ (fns_nil _) mixed Tryd.func87 (by kernel_rfl) (by kernel_rfl) (fun x => by kernel_rfl)

def s_spec_l1Below : Sig := { params := [.ioptr y105, .val false y3], res := [.val false y3] }
noncomputable def e_spec_l1Below : Entry := ⟨s_spec_l1Below, fun a => D.spec_l1Below a.1 a.2⟩
noncomputable def v_spec_l1Below : Env := { ti := look tab, Γ := fns [(87, [], e_spec_l1Byte)], loop := fun _ => none, cut := fun _ => none, deep := fun _ => false }
theorem c_spec_l1Below : Contract Tryd.prog 78 e_spec_l1Below.sig e_spec_l1Below.F :=
  den_is (E := v_spec_l1Below) ⟨tab_ti, tab_eq⟩ (fns_cons c_spec_l1Byte (fns_nil _)) mixed Tryd.func78 (by kernel_rfl) (by kernel_rfl) (fun x => by kernel_rfl)

def s_spec_l4Draw : Sig := { params := [.ioptr y105], res := [.val true y27] }
noncomputable def e_spec_l4Draw : Entry := ⟨s_spec_l4Draw, fun a => D.spec_l4Draw a⟩
noncomputable def v_spec_l4Draw : Env := { ti := look tab, Γ := fns [(78, [], e_spec_l1Below)], loop := fun _ => none, cut := fun _ => none, deep := fun _ => false }
theorem c_spec_l4Draw : Contract Tryd.prog 68 e_spec_l4Draw.sig e_spec_l4Draw.F :=
  den_is (E := v_spec_l4Draw) ⟨tab_ti, tab_eq⟩ (fns_cons c_spec_l1Below (fns_nil _)) mixed Tryd.func68 (by kernel_rfl) (by kernel_rfl) (fun x => by kernel_rfl)

def s_spec_l1Int : Sig := { params := [.ioptr y105, .val false y32], res := [.val false y3] }
noncomputable def e_spec_l1Int : Entry := ⟨s_spec_l1Int, fun a => D.spec_l1Int a.1 a.2⟩
noncomputable def v_spec_l1Int : Env := { ti := look tab, Γ := fns [(78, [], e_spec_l1Below)], loop := fun _ => none, cut := fun _ => none, deep := fun _ => false }
theorem c_spec_l1Int : Contract Tryd.prog 64 e_spec_l1Int.sig e_spec_l1Int.F :=
  den_is (E := v_spec_l1Int) ⟨tab_ti, tab_eq⟩ (fns_cons c_spec_l1Below (fns_nil _)) mixed Tryd.func64 (by kernel_rfl) (by kernel_rfl) (fun x => by kernel_rfl)

def s_spec_l4Raw : Sig := { params := [.ioptr y105], res := [.val false y3] }
noncomputable def e_spec_l4Raw : Entry := ⟨s_spec_l4Raw, fun a => D.spec_l4Raw a⟩
noncomputable def v_spec_l4Raw : Env := { ti := look tab, Γ := fns [(64, [], e_spec_l1Int)], loop := fun _ => none, cut := fun _ => none, deep := fun _ => false }
theorem c_spec_l4Raw : Contract Tryd.prog 79 e_spec_l4Raw.sig e_spec_l4Raw.F :=
  den_is (E := v_spec_l4Raw) ⟨tab_ti, tab_eq⟩ (fns_cons c_spec_l1Int (fns_nil _)) mixed Tryd.func79 (by kernel_rfl) (by kernel_rfl) (fun x => by kernel_rfl)

def s_spec_l4Any : Sig := { params := [.ioptr y105], res := [.val true y27] }
noncomputable def e_spec_l4Any : Entry := ⟨s_spec_l4Any, fun a => D.spec_l4Any a⟩
noncomputable def v_spec_l4Any : Env := { ti := look tab, Γ := fns [(68, [], e_spec_l4Draw), (78, [], e_spec_l1Below), (79, [], e_spec_l4Raw)], loop := fun _ => none, cut := fun _ => none, deep := fun _ => false }
theorem c_spec_l4Any : Contract Tryd.prog 63 e_spec_l4Any.sig e_spec_l4Any.F :=
  den_is (E := v_spec_l4Any) ⟨tab_ti, tab_eq⟩ (fns_cons c_spec_l4Draw (fns_cons c_spec_l1Below (fns_cons c_spec_l4Raw (fns_nil _)))) mixed Tryd.func63 (by kernel_rfl) (by kernel_rfl) (fun x => by kernel_rfl)

def s_spec_DrawShownText : Sig := { params := [.val false y58], res := [.val true y29] }
noncomputable def e_spec_DrawShownText : Entry := ⟨s_spec_DrawShownText, fun a => D.spec_DrawShownText a⟩
noncomputable def v_spec_DrawShownText : Env := { ti := look tab, Γ := fns [(62, [], e_spec_l1New), (63, [], e_spec_l4Any), (64, [], e_spec_l1Int)], loop := fun _ => none, cut := fun _ => none, deep := fun _ => false }
theorem c_spec_DrawShownText : Contract Tryd.prog 34 e_spec_DrawShownText.sig e_spec_DrawShownText.F :=
  den_is (E := v_spec_DrawShownText) ⟨tab_ti, tab_eq⟩ (fns_cons c_spec_l1New (fns_cons c_spec_l4Any (fns_cons c_spec_l1Int (fns_nil _)))) mixed Tryd.func34 (by kernel_rfl) (by kernel_rfl) (fun x => by kernel_rfl)

def s_impl_InRange : Sig := { params := [.val false y3, .val false y3, .val false y3], res := [.val false y4] }
noncomputable def e_impl_InRange : Entry := ⟨s_impl_InRange, fun a => D.impl_InRange a.1 a.2.1 a.2.2⟩
noncomputable def v_impl_InRange : Env := { ti := look tab, Γ := fns [], loop := fun _ => none, cut := fun _ => none, deep := fun _ => false }
theorem c_impl_InRange : Contract Tryd.prog 44 e_impl_InRange.sig e_impl_InRange.F :=
  den_is (E := v_impl_InRange) ⟨tab_ti, tab_eq⟩ (fns_nil _) mixed Tryd.func44 (by kernel_rfl) (by kernel_rfl) (fun x => by kernel_rfl)

def s_impl_IsAddress : Sig := { params := [.val true y27], res := [.val false y4] }
noncomputable def e_impl_IsAddress : Entry := ⟨s_impl_IsAddress, fun a => D.impl_IsAddress a⟩
noncomputable def v_impl_IsAddress : Env := { ti := look tab, Γ := fns [(44, [], e_impl_InRange)], loop := fun _ => none, cut := fun _ => none, deep := fun _ => false }
theorem c_impl_IsAddress : Contract Tryd.prog 45 e_impl_IsAddress.sig e_impl_IsAddress.F :=
  den_is (E := v_impl_IsAddress) ⟨tab_ti, tab_eq⟩ (fns_cons c_impl_InRange (fns_nil _)) mixed Tryd.func45 (by kernel_rfl) (by kernel_rfl) (fun x => by kernel_rfl)

def s_strconv_Itoa : Sig := { params := [.val false y3], res := [.val false y9] }
noncomputable def e_strconv_Itoa : Entry := ⟨s_strconv_Itoa, fun a => D.strconv_Itoa a⟩
theorem c_strconv_Itoa : Contract Tryd.prog 70 e_strconv_Itoa.sig e_strconv_Itoa.F := Eq.mp (by kernel_rfl) (Go.Proofs.YtfipolbgkppdjaaDoor.Ex.itoa_is)

def s_impl_FormatInt : Sig := { params := [.val false y3], res := [.val false y9] }
noncomputable def e_impl_FormatInt : Entry := ⟨s_impl_FormatInt, fun a => D.impl_FormatInt a⟩
noncomputable def v_impl_FormatInt : Env := { ti := look tab, Γ := fns [(70, [], e_strconv_Itoa)], loop := fun _ => none, cut := fun _ => none, deep := fun _ => false }
theorem c_impl_FormatInt : Contract Tryd.prog 46 e_impl_FormatInt.sig e_impl_FormatInt.F :=
  den_is (E := v_impl_FormatInt) ⟨tab_ti, tab_eq⟩ (fns_cons c_strconv_Itoa (fns_nil _)) mixed Tryd.func46 (by kernel_rfl) (by kernel_rfl) (fun x => by kernel_rfl)

def s_impl_AddressText : Sig := { params := [.val true y27], res := [.val false y9] }
noncomputable def e_impl_AddressText : Entry := ⟨s_impl_AddressText, fun a => D.impl_AddressText a⟩
noncomputable def v_impl_AddressText : Env := { ti := look tab, Γ := fns [(45, [], e_impl_IsAddress), (46, [], e_impl_FormatInt)], loop := fun _ => none, cut := fun _ => none, deep := fun _ => false }
theorem c_impl_AddressText : Contract Tryd.prog 35 e_impl_AddressText.sig e_impl_AddressText.F :=
  den_is (E := v_impl_AddressText) ⟨tab_ti, tab_eq⟩ (fns_cons c_impl_IsAddress (fns_cons c_impl_FormatInt (fns_nil _))) mixed Tryd.func35 (by kernel_rfl) (by kernel_rfl) (fun x => by kernel_rfl)

def s_impl_ShownText : Sig := { params := [.val true y29], res := [.val false y9] }
noncomputable def e_impl_ShownText : Entry := ⟨s_impl_ShownText, fun a => D.impl_ShownText a⟩
noncomputable def v_impl_ShownText : Env := { ti := look tab, Γ := fns [(44, [], e_impl_InRange), (45, [], e_impl_IsAddress), (46, [], e_impl_FormatInt), (35, [], e_impl_AddressText)], loop := fun _ => none, cut := fun _ => none, deep := fun _ => false }
theorem c_impl_ShownText : Contract Tryd.prog 12 e_impl_ShownText.sig e_impl_ShownText.F :=
  den_is (E := v_impl_ShownText) ⟨tab_ti, tab_eq⟩ (fns_cons c_impl_InRange (fns_cons c_impl_IsAddress (fns_cons c_impl_FormatInt (fns_cons c_impl_AddressText (fns_nil _))))) mixed Tryd.func12 (by kernel_rfl) (by kernel_rfl) (fun x => by kernel_rfl)

def s_spec_l1In : Sig := { params := [.val false y3, .val false y3, .val false y3], res := [.val false y4] }
noncomputable def e_spec_l1In : Entry := ⟨s_spec_l1In, fun a => D.spec_l1In a.1 a.2.1 a.2.2⟩
noncomputable def v_spec_l1In : Env := { ti := look tab, Γ := fns [], loop := fun _ => none, cut := fun _ => none, deep := fun _ => false }
theorem c_spec_l1In : Contract Tryd.prog 39 e_spec_l1In.sig e_spec_l1In.F :=
  den_is (E := v_spec_l1In) ⟨tab_ti, tab_eq⟩ (fns_nil _) mixed Tryd.func39 (by kernel_rfl) (by kernel_rfl) (fun x => by kernel_rfl)

def s_spec_IsAddress : Sig := { params := [.val true y27], res := [.val false y4] }
noncomputable def e_spec_IsAddress : Entry := ⟨s_spec_IsAddress, fun a => D.spec_IsAddress a⟩
noncomputable def v_spec_IsAddress : Env := { ti := look tab, Γ := fns [(39, [], e_spec_l1In)], loop := fun _ => none, cut := fun _ => none, deep := fun _ => false }
theorem c_spec_IsAddress : Contract Tryd.prog 40 e_spec_IsAddress.sig e_spec_IsAddress.F :=
  den_is (E := v_spec_IsAddress) ⟨tab_ti, tab_eq⟩ (fns_cons c_spec_l1In (fns_nil _)) mixed Tryd.func40 (by kernel_rfl) (by kernel_rfl) (fun x => by kernel_rfl)

def s_spec_FormatInt : Sig := { params := [.val false y3], res := [.val false y9] }
noncomputable def e_spec_FormatInt : Entry := ⟨s_spec_FormatInt, fun a => D.spec_FormatInt a⟩
noncomputable def v_spec_FormatInt : Env := { ti := look tab, Γ := fns [], loop := fun b => match b with | 0 => some [.slot 3 (.str), .slot 4 (.int .i64)] | _ => none, cut := fun _ => none, deep := fun _ => false }
theorem c_spec_FormatInt : Contract Tryd.prog 41 e_spec_FormatInt.sig e_spec_FormatInt.F :=
  den_is (E := v_spec_FormatInt) ⟨tab_ti, tab_eq⟩ (fns_nil _) mixed Tryd.func41 (by kernel_rfl) (by kernel_rfl) (fun x => by kernel_rfl)

def s_spec_AddressText : Sig := { params := [.val true y27], res := [.val false y9] }
noncomputable def e_spec_AddressText : Entry := ⟨s_spec_AddressText, fun a => D.spec_AddressText a⟩
noncomputable def v_spec_AddressText : Env := { ti := look tab, Γ := fns [(40, [], e_spec_IsAddress), (41, [], e_spec_FormatInt)], loop := fun _ => none, cut := fun _ => none, deep := fun _ => false }
theorem c_spec_AddressText : Contract Tryd.prog 42 e_spec_AddressText.sig e_spec_AddressText.F :=
  den_is (E := v_spec_AddressText) ⟨tab_ti, tab_eq⟩ (fns_cons c_spec_IsAddress (fns_cons c_spec_FormatInt (fns_nil _))) mixed Tryd.func42 (by kernel_rfl) (by kernel_rfl) (fun x => by kernel_rfl)

def s_spec_ShownText : Sig := { params := [.val true y29], res := [.val false y9] }
noncomputable def e_spec_ShownText : Entry := ⟨s_spec_ShownText, fun a => D.spec_ShownText a⟩
noncomputable def v_spec_ShownText : Env := { ti := look tab, Γ := fns [(39, [], e_spec_l1In), (40, [], e_spec_IsAddress), (41, [], e_spec_FormatInt), (42, [], e_spec_AddressText)], loop := fun _ => none, cut := fun _ => none, deep := fun _ => false }
theorem c_spec_ShownText : Contract Tryd.prog 10 e_spec_ShownText.sig e_spec_ShownText.F :=
  den_is (E := v_spec_ShownText) ⟨tab_ti, tab_eq⟩ (fns_cons c_spec_l1In (fns_cons c_spec_IsAddress (fns_cons c_spec_FormatInt (fns_cons c_spec_AddressText (fns_nil _))))) mixed Tryd.func10 (by kernel_rfl) (by kernel_rfl) (fun x => by kernel_rfl)

def s_strings_CutPrefix : Sig := { params := [.val false y9, .val false y9], res := [.val false y9, .val false y4] }
noncomputable def e_strings_CutPrefix : Entry := ⟨s_strings_CutPrefix, fun a => D.strings_CutPrefix a.1 a.2⟩
theorem c_strings_CutPrefix : Contract Tryd.prog 56 e_strings_CutPrefix.sig e_strings_CutPrefix.F := Eq.mp (by kernel_rfl) (Go.Proofs.YtfipolbgkppdjaaDoor.Ex.cutPrefix_is)

def s_strings_Cut : Sig := { params := [.val false y9, .val false y9], res := [.val false y9, .val false y9, .val false y4] }
noncomputable def e_strings_Cut : Entry := ⟨s_strings_Cut, fun a => D.strings_Cut a.1 a.2⟩
theorem c_strings_Cut : Contract Tryd.prog 57 e_strings_Cut.sig e_strings_Cut.F := Eq.mp (by kernel_rfl) (Go.Proofs.YtfipolbgkppdjaaDoor.Ex.cut_is)

def s_impl_ParseInt : Sig := { params := [.val false y9], res := [.val false y3, .val false y4] }
noncomputable def e_impl_ParseInt : Entry := ⟨s_impl_ParseInt, fun a => D.impl_ParseInt a⟩
noncomputable def v_impl_ParseInt : Env := { ti := look tab, Γ := fns [(46, [], e_impl_FormatInt)], loop := fun b => match b with | 0 => some [.slot 4 (.int .i64), .slot 16 (.int .i64)] | _ => none, cut := fun _ => none, deep := fun _ => false }
theorem c_impl_ParseInt : Contract Tryd.prog 58 e_impl_ParseInt.sig e_impl_ParseInt.F :=
  den_is (E := v_impl_ParseInt) ⟨tab_ti, tab_eq⟩ (fns_cons c_impl_FormatInt (fns_nil _)) mixed Tryd.func58 (by kernel_rfl) (by kernel_rfl) (fun x => by kernel_rfl)

def s_impl_ParseAddress : Sig := { params := [.val false y9], res := [.val true y27, .val false y4] }
noncomputable def e_impl_ParseAddress : Entry := ⟨s_impl_ParseAddress, fun a => D.impl_ParseAddress a⟩
noncomputable def v_impl_ParseAddress : Env := { ti := look tab, Γ := fns [(57, [], e_strings_Cut), (58, [], e_impl_ParseInt), (35, [], e_impl_AddressText)], loop := fun _ => none, cut := fun _ => none, deep := fun _ => false }
theorem c_impl_ParseAddress : Contract Tryd.prog 59 e_impl_ParseAddress.sig e_impl_ParseAddress.F :=
  den_is (E := v_impl_ParseAddress) ⟨tab_ti, tab_eq⟩ (fns_cons c_strings_Cut (fns_cons c_impl_ParseInt (fns_cons c_impl_AddressText (fns_nil _)))) mixed Tryd.func59 (by kernel_rfl) (by kernel_rfl) (fun x => by kernel_rfl)

def s_impl_ParseShown : Sig := { params := [.val false y9], res := [.val true y29, .val false y4] }
noncomputable def e_impl_ParseShown : Entry := ⟨s_impl_ParseShown, fun a => D.impl_ParseShown a⟩
noncomputable def v_impl_ParseShown : Env := { ti := look tab, Γ := fns [(56, [], e_strings_CutPrefix), (57, [], e_strings_Cut), (58, [], e_impl_ParseInt), (59, [], e_impl_ParseAddress), (12, [], e_impl_ShownText)], loop := fun _ => none, cut := fun _ => none, deep := fun _ => false }
theorem c_impl_ParseShown : Contract Tryd.prog 26 e_impl_ParseShown.sig e_impl_ParseShown.F :=
  den_is (E := v_impl_ParseShown) ⟨tab_ti, tab_eq⟩ (fns_cons c_strings_CutPrefix (fns_cons c_strings_Cut (fns_cons c_impl_ParseInt (fns_cons c_impl_ParseAddress (fns_cons c_impl_ShownText (fns_nil _)))))) mixed Tryd.func26 (by kernel_rfl) (by kernel_rfl) (fun x => by kernel_rfl)

def s_impl_SeenByScript : Sig := { params := [.val false y9], res := [.val false y9] }
noncomputable def e_impl_SeenByScript : Entry := ⟨s_impl_SeenByScript, fun a => D.impl_SeenByScript a⟩
noncomputable def v_impl_SeenByScript : Env := { ti := look tab, Γ := fns [(26, [], e_impl_ParseShown), (35, [], e_impl_AddressText)], loop := fun _ => none, cut := fun _ => none, deep := fun _ => false }
theorem c_impl_SeenByScript : Contract Tryd.prog 24 e_impl_SeenByScript.sig e_impl_SeenByScript.F :=
  den_is (E := v_impl_SeenByScript) ⟨tab_ti, tab_eq⟩ (fns_cons c_impl_ParseShown (fns_cons c_impl_AddressText (fns_nil _))) mixed Tryd.func24 (by kernel_rfl) (by kernel_rfl) (fun x => by kernel_rfl)

def s_spec_l1Str : Sig := { params := [.ioptr y105, .val false y53], res := [.val false y9] }
noncomputable def e_spec_l1Str : Entry := ⟨s_spec_l1Str, fun a => D.spec_l1Str a.1 a.2⟩
noncomputable def v_spec_l1Str : Env := { ti := look tab, Γ := fns [(78, [], e_spec_l1Below)], loop := fun _ => none, cut := fun _ => none, deep := fun _ => false }
theorem c_spec_l1Str : Contract Tryd.prog 80 e_spec_l1Str.sig e_spec_l1Str.F :=
  den_is (E := v_spec_l1Str) ⟨tab_ti, tab_eq⟩ (fns_cons c_spec_l1Below (fns_nil _)) mixed Tryd.func80 (by kernel_rfl) (by kernel_rfl) (fun x => by kernel_rfl)

def s_spec_l21Text : Sig := { params := [.ioptr y105], res := [.val false y9] }
noncomputable def e_spec_l21Text : Entry := ⟨s_spec_l21Text, fun a => D.spec_l21Text a⟩
noncomputable def v_spec_l21Text : Env := { ti := look tab, Γ := fns [(78, [], e_spec_l1Below), (68, [], e_spec_l4Draw), (10, [], e_spec_ShownText), (80, [], e_spec_l1Str)], loop := fun _ => none, cut := fun _ => none, deep := fun _ => false }
theorem c_spec_l21Text : Contract Tryd.prog 65 e_spec_l21Text.sig e_spec_l21Text.F :=
  den_is (E := v_spec_l21Text) ⟨tab_ti, tab_eq⟩ (fns_cons c_spec_l1Below (fns_cons c_spec_l4Draw (fns_cons c_spec_ShownText (fns_cons c_spec_l1Str (fns_nil _))))) mixed Tryd.func65 (by kernel_rfl) (by kernel_rfl) (fun x => by kernel_rfl)

def s_spec_DrawParseShown : Sig := { params := [.val false y58], res := [.val false y9] }
noncomputable def e_spec_DrawParseShown : Entry := ⟨s_spec_DrawParseShown, fun a => D.spec_DrawParseShown a⟩
noncomputable def v_spec_DrawParseShown : Env := { ti := look tab, Γ := fns [(62, [], e_spec_l1New), (65, [], e_spec_l21Text)], loop := fun _ => none, cut := fun _ => none, deep := fun _ => false }
theorem c_spec_DrawParseShown : Contract Tryd.prog 36 e_spec_DrawParseShown.sig e_spec_DrawParseShown.F :=
  den_is (E := v_spec_DrawParseShown) ⟨tab_ti, tab_eq⟩ (fns_cons c_spec_l1New (fns_cons c_spec_l21Text (fns_nil _))) mixed Tryd.func36 (by kernel_rfl) (by kernel_rfl) (fun x => by kernel_rfl)

def s_impl_StaysInside_1 : Sig := { params := [.val false y9], res := [.val false y4] }
noncomputable def e_impl_StaysInside_1 : Entry := ⟨s_impl_StaysInside_1, fun a => D.impl_StaysInside_1 a⟩
noncomputable def v_impl_StaysInside_1 : Env := { ti := look tab, Γ := fns [(26, [], e_impl_ParseShown)], loop := fun _ => none, cut := fun _ => none, deep := fun _ => false }
theorem c_impl_StaysInside_1 : Contract Tryd.prog 61 e_impl_StaysInside_1.sig e_impl_StaysInside_1.F :=
  den_is (E := v_impl_StaysInside_1) ⟨tab_ti, tab_eq⟩ (fns_cons c_impl_ParseShown (fns_nil _)) mixed Tryd.func61 (by kernel_rfl) (by kernel_rfl) (fun x => by kernel_rfl)

def s_slices_IndexFunc_string_impl_StaysInside_1 : Sig := { params := [.val false y53, .fn 61 []], res := [.val false y3] }
noncomputable def e_slices_IndexFunc_string_impl_StaysInside_1 : Entry := ⟨s_slices_IndexFunc_string_impl_StaysInside_1, fun a => D.slices_IndexFunc_string_impl_StaysInside_1 a.1⟩
noncomputable def v_slices_IndexFunc_string_impl_StaysInside_1 : Env := { ti := look tab, Γ := fns [(61, [], e_impl_StaysInside_1)], loop := fun b => match b with | 0 => some [.slot 8 (.int .i64)] | _ => none, cut := fun _ => none, deep := fun _ => false }
theorem c_slices_IndexFunc_string_impl_StaysInside_1 : Contract Tryd.prog 77 e_slices_IndexFunc_string_impl_StaysInside_1.sig e_slices_IndexFunc_string_impl_StaysInside_1.F :=
  den_is (E := v_slices_IndexFunc_string_impl_StaysInside_1) ⟨tab_ti, tab_eq⟩ (fns_cons c_impl_StaysInside_1 (fns_nil _)) mixed Tryd.func77 (by kernel_rfl) (by kernel_rfl) (fun x => by kernel_rfl)

def s_slices_ContainsFunc_string_impl_StaysInside_1 : Sig := { params := [.val false y53, .fn 61 []], res := [.val false y4] }
noncomputable def e_slices_ContainsFunc_string_impl_StaysInside_1 : Entry := ⟨s_slices_ContainsFunc_string_impl_StaysInside_1, fun a => D.slices_ContainsFunc_string_impl_StaysInside_1 a.1⟩
noncomputable def v_slices_ContainsFunc_string_impl_StaysInside_1 : Env := { ti := look tab, Γ := fns [(77, [61], e_slices_IndexFunc_string_impl_StaysInside_1)], loop := fun _ => none, cut := fun _ => none, deep := fun _ => false }
theorem c_slices_ContainsFunc_string_impl_StaysInside_1 : Contract Tryd.prog 60 e_slices_ContainsFunc_string_impl_StaysInside_1.sig e_slices_ContainsFunc_string_impl_StaysInside_1.F :=
  den_is (E := v_slices_ContainsFunc_string_impl_StaysInside_1) ⟨tab_ti, tab_eq⟩ (fns_cons c_slices_IndexFunc_string_impl_StaysInside_1 (fns_nil _)) mixed Tryd.func60 (by kernel_rfl) (by kernel_rfl) (fun x => by kernel_rfl)

def s_impl_StaysInside : Sig := { params := [.val false y53], res := [.val false y4] }
noncomputable def e_impl_StaysInside : Entry := ⟨s_impl_StaysInside, fun a => D.impl_StaysInside a⟩
noncomputable def v_impl_StaysInside : Env := { ti := look tab, Γ := fns [(60, [61], e_slices_ContainsFunc_string_impl_StaysInside_1)], loop := fun _ => none, cut := fun _ => none, deep := fun _ => false }
theorem c_impl_StaysInside : Contract Tryd.prog 31 e_impl_StaysInside.sig e_impl_StaysInside.F :=
  den_is (E := v_impl_StaysInside) ⟨tab_ti, tab_eq⟩ (fns_cons c_slices_ContainsFunc_string_impl_StaysInside_1 (fns_nil _)) mixed Tryd.func31 (by kernel_rfl) (by kernel_rfl) (fun x => by kernel_rfl)

def s_spec_l5Body : Sig := { params := [.ioptr y105], res := [.row 3 y3 false] }
noncomputable def e_spec_l5Body : Entry := ⟨s_spec_l5Body, fun a => D.spec_l5Body a⟩
noncomputable def v_spec_l5Body : Env := { ti := look tab, Γ := fns [(78, [], e_spec_l1Below)], loop := fun b => match b with | 0 => some [.slot 3 (.own 3 y3 false), .slot 4 (.int .i64), .box 0 [.ro 5 y5, .int .i64, .int .i64]] | _ => none, cut := fun _ => none, deep := fun _ => false }
theorem c_spec_l5Body : Contract Tryd.prog 88 e_spec_l5Body.sig e_spec_l5Body.F :=
  den_is (E := v_spec_l5Body) ⟨tab_ti, tab_eq⟩ (fns_cons c_spec_l1Below (fns_nil _)) mixed Tryd.func88 (by kernel_rfl) (by kernel_rfl) (fun x => by kernel_rfl)

def s_spec_l5Draw : Sig := { params := [.ioptr y105], res := [.val false y3, .row 3 y3 false, .val false y3, .val false y3, .val false y3], rgroups := [some 5] }
noncomputable def e_spec_l5Draw : Entry := ⟨s_spec_l5Draw, fun a => D.spec_l5Draw a⟩
noncomputable def v_spec_l5Draw : Env := { ti := look tab, Γ := fns [(78, [], e_spec_l1Below), (68, [], e_spec_l4Draw), (88, [], e_spec_l5Body)], loop := fun _ => none, cut := fun _ => none, deep := fun _ => false }
theorem c_spec_l5Draw : Contract Tryd.prog 81 e_spec_l5Draw.sig e_spec_l5Draw.F :=
  den_is (E := v_spec_l5Draw) ⟨tab_ti, tab_eq⟩ (fns_cons c_spec_l1Below (fns_cons c_spec_l4Draw (fns_cons c_spec_l5Body (fns_nil _)))) mixed Tryd.func81 (by kernel_rfl) (by kernel_rfl) (fun x => by kernel_rfl)

def s_spec_l5Any : Sig := { params := [.ioptr y105], res := [.val false y3, .row 3 y3 false, .val false y3, .val false y3, .val false y3], rgroups := [some 5] }
noncomputable def e_spec_l5Any : Entry := ⟨s_spec_l5Any, fun a => D.spec_l5Any a⟩
noncomputable def v_spec_l5Any : Env := { ti := look tab, Γ := fns [(81, [], e_spec_l5Draw), (78, [], e_spec_l1Below), (64, [], e_spec_l1Int), (63, [], e_spec_l4Any)], loop := fun _ => none, cut := fun _ => none, deep := fun _ => false }
theorem c_spec_l5Any : Contract Tryd.prog 66 e_spec_l5Any.sig e_spec_l5Any.F :=
  den_is (E := v_spec_l5Any) ⟨tab_ti, tab_eq⟩ (fns_cons c_spec_l5Draw (fns_cons c_spec_l1Below (fns_cons c_spec_l1Int (fns_cons c_spec_l4Any (fns_nil _))))) mixed Tryd.func66 (by kernel_rfl) (by kernel_rfl) (fun x => by kernel_rfl)

def s_spec_l1Once : Sig := { params := [.ioptr y105, .val false y3], res := [.val false y4] }
noncomputable def e_spec_l1Once : Entry := ⟨s_spec_l1Once, fun a => D.spec_l1Once a.1 a.2⟩
noncomputable def v_spec_l1Once : Env := { ti := look tab, Γ := fns [(78, [], e_spec_l1Below)], loop := fun _ => none, cut := fun _ => none, deep := fun _ => false }
theorem c_spec_l1Once : Contract Tryd.prog 67 e_spec_l1Once.sig e_spec_l1Once.F :=
  den_is (E := v_spec_l1Once) ⟨tab_ti, tab_eq⟩ (fns_cons c_spec_l1Below (fns_nil _)) mixed Tryd.func67 (by kernel_rfl) (by kernel_rfl) (fun x => by kernel_rfl)

def s_spec_DrawShowMove : Sig := { params := [.val false y58], res := [.val false y3, .row 3 y3 false, .val false y3, .val false y3, .val false y3, .val false y3], rgroups := [some 5, none] }
noncomputable def e_spec_DrawShowMove : Entry := ⟨s_spec_DrawShowMove, fun a => D.spec_DrawShowMove a⟩
noncomputable def v_spec_DrawShowMove : Env := { ti := look tab, Γ := fns [(62, [], e_spec_l1New), (66, [], e_spec_l5Any), (67, [], e_spec_l1Once), (68, [], e_spec_l4Draw), (64, [], e_spec_l1Int)], loop := fun _ => none, cut := fun _ => none, deep := fun _ => false }
theorem c_spec_DrawShowMove : Contract Tryd.prog 37 e_spec_DrawShowMove.sig e_spec_DrawShowMove.F :=
  den_is (E := v_spec_DrawShowMove) ⟨tab_ti, tab_eq⟩ (fns_cons c_spec_l1New (fns_cons c_spec_l5Any (fns_cons c_spec_l1Once (fns_cons c_spec_l4Draw (fns_cons c_spec_l1Int (fns_nil _)))))) mixed Tryd.func37 (by kernel_rfl) (by kernel_rfl) (fun x => by kernel_rfl)

def s_impl_allIn : Sig := { params := [.val false y32, .val false y3, .val false y3], res := [.val false y4] }
noncomputable def e_impl_allIn : Entry := ⟨s_impl_allIn, fun a => D.impl_allIn a.1 a.2.1 a.2.2⟩
noncomputable def v_impl_allIn : Env := { ti := look tab, Γ := fns [(44, [], e_impl_InRange)], loop := fun b => match b with | 0 => some [.slot 11 (.int .i64)] | _ => none, cut := fun _ => none, deep := fun _ => false }
theorem c_impl_allIn : Contract Tryd.prog 69 e_impl_allIn.sig e_impl_allIn.F :=
  den_is (E := v_impl_allIn) ⟨tab_ti, tab_eq⟩ (fns_cons c_impl_InRange (fns_nil _)) mixed Tryd.func69 (by kernel_rfl) (by kernel_rfl) (fun x => by kernel_rfl)

def s_impl_IsResource : Sig := { params := [.val true y38], res := [.val false y4] }
noncomputable def e_impl_IsResource : Entry := ⟨s_impl_IsResource, fun a => D.impl_IsResource a⟩
noncomputable def v_impl_IsResource : Env := { ti := look tab, Γ := fns [(69, [], e_impl_allIn), (45, [], e_impl_IsAddress)], loop := fun _ => none, cut := fun _ => none, deep := fun _ => false }
theorem c_impl_IsResource : Contract Tryd.prog 38 e_impl_IsResource.sig e_impl_IsResource.F :=
  den_is (E := v_impl_IsResource) ⟨tab_ti, tab_eq⟩ (fns_cons c_impl_allIn (fns_cons c_impl_IsAddress (fns_nil _))) mixed Tryd.func38 (by kernel_rfl) (by kernel_rfl) (fun x => by kernel_rfl)

def s_impl_ShowMove : Sig := { params := [.val true y38, .val false y3], res := [.val false y9] }
noncomputable def e_impl_ShowMove : Entry := ⟨s_impl_ShowMove, fun a => D.impl_ShowMove a.1 a.2⟩
noncomputable def v_impl_ShowMove : Env := { ti := look tab, Γ := fns [(38, [], e_impl_IsResource), (12, [], e_impl_ShownText)], loop := fun _ => none, cut := fun _ => none, deep := fun _ => false }
theorem c_impl_ShowMove : Contract Tryd.prog 16 e_impl_ShowMove.sig e_impl_ShowMove.F :=
  den_is (E := v_impl_ShowMove) ⟨tab_ti, tab_eq⟩ (fns_cons c_impl_IsResource (fns_cons c_impl_ShownText (fns_nil _))) mixed Tryd.func16 (by kernel_rfl) (by kernel_rfl) (fun x => by kernel_rfl)

def s_laws_FnShown : Sig := { params := [.val false y58], res := [.val false y4] }
noncomputable def e_laws_FnShown : Entry := ⟨s_laws_FnShown, fun a => D.laws_FnShown a⟩
noncomputable def v_laws_FnShown : Env := { ti := look tab, Γ := fns [(33, [], e_laws_big), (34, [], e_spec_DrawShownText), (12, [], e_impl_ShownText), (10, [], e_spec_ShownText), (26, [], e_impl_ParseShown), (24, [], e_impl_SeenByScript), (35, [], e_impl_AddressText), (36, [], e_spec_DrawParseShown), (31, [], e_impl_StaysInside), (37, [], e_spec_DrawShowMove), (16, [], e_impl_ShowMove), (38, [], e_impl_IsResource)], loop := fun _ => none, cut := fun _ => none, deep := fun _ => false }
theorem c_laws_FnShown : Contract Tryd.prog 9 e_laws_FnShown.sig e_laws_FnShown.F :=
  den_is (E := v_laws_FnShown) ⟨tab_ti, tab_eq⟩ (fns_cons c_laws_big (fns_cons c_spec_DrawShownText (fns_cons c_impl_ShownText (fns_cons c_spec_ShownText (fns_cons c_impl_ParseShown (fns_cons c_impl_SeenByScript (fns_cons c_impl_AddressText (fns_cons c_spec_DrawParseShown (fns_cons c_impl_StaysInside (fns_cons c_spec_DrawShowMove (fns_cons c_impl_ShowMove (fns_cons c_impl_IsResource (fns_nil _))))))))))))) mixed Tryd.func9 (by kernel_rfl) (by kernel_rfl) (fun x => by kernel_rfl)

theorem law_true (a : Tup (s_laws_FnShown.params.map PTy.den)) (hok : argsOk Tryd.prog s_laws_FnShown.params a) : D.laws_FnShown a = some true := D.FnShown_true a (Ty.ok_bd (P := Tryd.prog) (t := y58) (by kernel_rfl) hok.1)
theorem witness_row (os : Os) {H : Type} (enc : TypeId × Value → H) :
    (OpenSpec.ofChange Rows.fnShownSpec).preRow enc Tryd.prog Tryd.f9 Rows.fnShownRow.domain false Rows.fnShownRow.laid ((Ex.laidWorld os).forCall (fun _ _ => 0) ⟨#[], #[.slice none 0 0], []⟩).memory #[.slice none 0 0] := by
  have hw : (DataW.whole enc Tryd.prog ((Ex.laidWorld os).forCall (fun _ _ => 0) ⟨#[], #[.slice none 0 0], []⟩).memory Tryd.f9.params.toList (OpenSpec.ofChange Rows.fnShownSpec).vars false (#[.slice none 0 0] : Array Value).toList 8).map (fun x => (x.1, x.2.1)) =
      some ([.nil], []) := by kernel_rfl
  obtain ⟨⟨x1, x2, x3⟩, hx, hx1⟩ := Option.map_eq_some_iff.1 hw
  simp only [Prod.mk.injEq] at hx1
  obtain ⟨rfl, rfl⟩ := hx1
  exact OpenSpec.preRow_of_cond 8 hx (by kernel_rfl) (fun k hk => by cases hk) (by kernel_rfl) (Ex.laid_met os _)
theorem lifted (os : Os) (started : os.Started) (H : Type) (enc : TypeId × Value → H) (F0 : Stop.Interp) :
    ReturnsInHanded {} Tryd.checked os 9 .any ((OpenSpec.ofChange Rows.fnShownSpec).preRow enc Tryd.prog Tryd.f9 Rows.fnShownRow.domain false Rows.fnShownRow.laid) (((OpenSpec.ofChange Rows.fnShownSpec).at F0).post enc Tryd.prog Tryd.f9 false true false false) := by
  refine returnsInHanded_of_row (C := Tryd.checked) (s := OpenSpec.ofChange Rows.fnShownSpec) (by kernel_rfl) started (by kernel_rfl) Tryd.func9
    (witness_row_at (enc := enc) (C := Tryd.checked) false (Ex.laidWorld os) #[.slice none 0 0] rfl (by kernel_rfl) (by kernel_rfl) (by kernel_rfl) (witness_row os enc)) ?_
  intro W base args ds gs before hval hW hcnd _ hsz hL hsh _
  exact law_row (C := Tryd.checked) rfl c_laws_FnShown (N := 8) (by kernel_rfl) (tb := 4) (by kernel_rfl) (by kernel_rfl) (by kernel_rfl) (by kernel_rfl) rfl
    (fun ds h => by
      have h : ds.length = 1 := h
      match ds, h with
      | [d0], _ => rfl)
    bulky_sizeOf (small := fun _ => True) (fun a ds hok _ _ => ⟨_, law_true a hok, rfl⟩) hval hW hsz trivial (Ex.tabs_ok hL hsh)

theorem over : Rows.FnShownSaid :=
  OpenClaim.holds_of_cond 9 Tryd.f9 rfl rfl rfl rfl rfl rfl rfl ⟨rfl, rfl, rfl, rfl, rfl⟩ rfl rfl rfl rfl rfl (by kernel_rfl) Tryd.func9 (by kernel_rfl)
    (of_decide_eq_true (by kernel_rfl)) (by unfold Func.isWrapper; first | (rw [if_pos (by decide +kernel)]; kernel_rfl) | (rw [if_neg (by decide +kernel)]; exact ⟨rfl, rfl⟩))
    (fun os started H enc _ F0 => by rw [OpenClaim.pre_eq_preRow]; exact lifted os started H enc F0)
theorem card : Rows.FnShownCardSaid :=
  Claim7.holds_tied_plain_at .later [] [.data, .data, .data] true Rows.fnShownCard.stood.harness false
    over (fun _ h => by cases h) (by kernel_rfl) (fun _ h => by cases h) fnShown_row_tie rfl ⟨rfl, rfl⟩ (by kernel_rfl) rfl
    (fun f fn hf hfn => by
      obtain rfl : f = 9 := Option.some.inj ((show Tryd.prog.funcNamed "loop.example/g03002/laws.FnShown" = some 9 by kernel_rfl).symm.trans hf) |>.symm
      obtain rfl : fn = Tryd.f9 := (Option.some.inj (Tryd.func9.symm.trans hfn)).symm
      exact ⟨by kernel_rfl, fun j t ht => by
        have hm : t ∈ [58] := by
          have := Array.mem_of_getElem? ht
          exact List.mem_of_elem_eq_true (by
            have h2 : t ∈ Tryd.f9.params.toList := by simpa using this
            rw [show Tryd.f9.params.toList = [58] by kernel_rfl] at h2
            exact List.elem_eq_true_of_mem h2)
        have hall : ([58].all fun u => !Tryd.prog.wantsStandIn u) = true := by kernel_rfl
        exact (show Tryd.prog.wantsStandIn t = false by simpa using List.all_eq_true.1 hall t hm)⟩)
    (by kernel_rfl)
end Go.Proofs.YtfipolbgkppdjaaDoor.SxFnShown
namespace Go.Proofs.YtfipolbgkppdjaaDoor
theorem fnShown_holds : Rows.FnShownCardSaid := SxFnShown.card
end Go.Proofs.YtfipolbgkppdjaaDoor
