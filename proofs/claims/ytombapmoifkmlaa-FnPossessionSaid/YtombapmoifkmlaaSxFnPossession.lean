/- FnPossession returns true for every input, and each input reads as it did. No condition. -/
import Derived.Test.YtombapmoifkmlaaRows
import Derived.Test.YtombapmoifkmlaaPuFnPossession
import Derived.WalkKit
import Derived.ProofKit
import Derived.ShutString
import Derived.SizedLaws
set_option linter.unusedVariables false
set_option maxRecDepth 100000
set_option maxHeartbeats 4000000
namespace Go.Proofs.Ytombapmoifkmlaa.SxFnPossession
open Go Go.Sh Go.RowKit
def y3 : Ty := .int .i64
def y4 : Ty := .bool
def y5 : Ty := .int .u8
def y22 : Ty := .slice 3 y3
def y43 : Ty := .slice 5 y5
def y46 : Ty := .pair y3 (.pair y3 y3)
def y48 : Ty := .pair y3 (.pair y22 y46)
def y105 : Ty := .pair y43 (.pair y3 y3)
def tab : List (TypeId × TI) := [(3, { size := 1, bytes := 8, agg := false, ty := some y3 }),
  (4, { size := 1, bytes := 1, agg := false, ty := some y4 }),
  (5, { size := 1, bytes := 1, agg := false, ty := some y5 }),
  (22, { size := 1, bytes := 24, agg := false, ty := some y22, elem := some 3 }),
  (43, { size := 1, bytes := 24, agg := false, ty := some y43, elem := some 5 }),
  (46, { size := 3, bytes := 24, agg := true, ty := some y46, fields := [(0, 3), (1, 3), (2, 3)] }),
  (48, { size := 5, bytes := 56, agg := true, ty := some y48, fields := [(0, 3), (1, 22), (2, 46)] }),
  (105, { size := 3, bytes := 40, agg := true, ty := some y105, fields := [(0, 43), (1, 3), (2, 3)] })]
def look : List (TypeId × TI) → TypeId → Option TI
  | [], _ => none
  | (k, i) :: r, t => if Nat.beq t k = true then some i else look r t
theorem look_ok {P : Program} : ∀ {l : List (TypeId × TI)}, (l.all fun p => tiOk P p.1 p.2) = true → ∀ t i, look l t = some i → tiOk P t i = true
  | [], _, t, i, h => by simp [look] at h
  | (k, j) :: r, h0, t, i, h => by
    simp only [List.all_cons, Bool.and_eq_true] at h0
    simp only [look] at h
    split at h
    · rename_i hk
      simp only [Option.some.injEq] at h
      have := Nat.eq_of_beq_eq_true hk
      subst this; subst h; exact h0.1
    · exact look_ok h0.2 t i h
theorem look_eq {P : Program} : ∀ {l : List (TypeId × TI)}, (l.all fun p => !p.2.eq || eqTop P p.1 p.2.ty) = true → ∀ t i, look l t = some i → i.eq = true → ∀ ty, i.ty = some ty → EqLaw P t ty.zero
  | [], _, t, i, h => by simp [look] at h
  | (k, j) :: r, h0, t, i, h => by
    simp only [List.all_cons, Bool.and_eq_true, Bool.or_eq_true, Bool.not_eq_true'] at h0
    simp only [look] at h
    split at h
    · rename_i hk
      simp only [Option.some.injEq] at h
      have := Nat.eq_of_beq_eq_true hk
      subst this; subst h
      intro he
      exact eqLaw_of (h0.1.resolve_left (by simp [he]))
    · exact look_eq h0.2 t i h
def same : List Nat → List Nat → Bool
  | [], [] => true
  | a :: x, b :: y => Nat.beq a b && same x y
  | _, _ => false
theorem same_eq : ∀ {x y : List Nat}, same x y = true → x = y
  | [], [], _ => rfl
  | a :: x, b :: y, h => by
    simp only [same, Bool.and_eq_true] at h
    rw [Nat.eq_of_beq_eq_true h.1, same_eq h.2]
  | [], _ :: _, h => by simp [same] at h
  | _ :: _, [], h => by simp [same] at h
def fns : List (FuncId × List FuncId × Entry) → FuncId → List FuncId → Option Entry
  | [], _, _ => none
  | (k, c, e) :: r, f, fs => if (Nat.beq f k && same fs c) = true then some e else fns r f fs
theorem fns_nil (P : Program) : ∀ f fs en, fns [] f fs = some en → Contract P f en.sig en.F := fun f fs en h => by simp [fns] at h
theorem fns_cons {P : Program} {k : FuncId} {c : List FuncId} {e : Entry} {r : List (FuncId × List FuncId × Entry)} (hk : Contract P k e.sig e.F) (hr : ∀ f fs en, fns r f fs = some en → Contract P f en.sig en.F) : ∀ f fs en, fns ((k, c, e) :: r) f fs = some en → Contract P f en.sig en.F := fun f fs en h => by
  simp only [fns] at h
  split at h
  · rename_i hf
    simp only [Bool.and_eq_true] at hf
    simp only [Option.some.injEq] at h
    have := Nat.eq_of_beq_eq_true hf.1
    subst this; subst h; exact hk
  · exact hr f fs en h

theorem tab_ti : ∀ t i, look tab t = some i → tiOk Try.prog t i = true := look_ok (by kernel_rfl)
theorem tab_eq : ∀ t i, look tab t = some i → i.eq = true → ∀ ty, i.ty = some ty → EqLaw Try.prog t ty.zero := look_eq (by kernel_rfl)
theorem mixed : Try.prog.follows .mixedOrders = true := by kernel_rfl
def s_laws_big : Sig := { params := [.val false y43], res := [.val false y4] }
noncomputable def e_laws_big : Entry := ⟨s_laws_big, fun a => D.laws_big a⟩
noncomputable def v_laws_big : Env := { ti := look tab, Γ := fns [], loop := fun _ => none, cut := fun _ => none, deep := fun _ => false }
theorem c_laws_big : Contract Try.prog 25 e_laws_big.sig e_laws_big.F :=
  den_is (E := v_laws_big) ⟨tab_ti, tab_eq⟩ (fns_nil _) mixed Try.func25 (by kernel_rfl) (by kernel_rfl) (fun x => by kernel_rfl)

def s_spec_l1New : Sig := { params := [.val false y43], res := [.ptr y105] }
noncomputable def e_spec_l1New : Entry := ⟨s_spec_l1New, fun a => D.spec_l1New a⟩
noncomputable def v_spec_l1New : Env := { ti := look tab, Γ := fns [], loop := fun b => match b with | 0 => some [.slot 3 (.int .i64), .slot 4 (.int .i64)] | _ => none, cut := fun _ => none, deep := fun _ => false }
theorem c_spec_l1New : Contract Try.prog 55 e_spec_l1New.sig e_spec_l1New.F :=
  den_is (E := v_spec_l1New) ⟨tab_ti, tab_eq⟩ (fns_nil _) mixed Try.func55 (by kernel_rfl) (by kernel_rfl) (fun x => by kernel_rfl)

def s_spec_l1Byte : Sig := { params := [.ioptr y105], res := [.val false y3] }
noncomputable def e_spec_l1Byte : Entry := ⟨s_spec_l1Byte, fun a => D.spec_l1Byte a⟩
noncomputable def v_spec_l1Byte : Env := { ti := look tab, Γ := fns [], loop := fun _ => none, cut := fun _ => none, deep := fun _ => false }
theorem c_spec_l1Byte : Contract Try.prog 82 e_spec_l1Byte.sig e_spec_l1Byte.F :=
  den_is (E := v_spec_l1Byte) ⟨tab_ti, tab_eq⟩ (fns_nil _) mixed Try.func82 (by kernel_rfl) (by kernel_rfl) (fun x => by kernel_rfl)

def s_spec_l1Below : Sig := { params := [.ioptr y105, .val false y3], res := [.val false y3] }
noncomputable def e_spec_l1Below : Entry := ⟨s_spec_l1Below, fun a => D.spec_l1Below a.1 a.2⟩
noncomputable def v_spec_l1Below : Env := { ti := look tab, Γ := fns [(82, [], e_spec_l1Byte)], loop := fun _ => none, cut := fun _ => none, deep := fun _ => false }
theorem c_spec_l1Below : Contract Try.prog 57 e_spec_l1Below.sig e_spec_l1Below.F :=
  den_is (E := v_spec_l1Below) ⟨tab_ti, tab_eq⟩ (fns_cons c_spec_l1Byte (fns_nil _)) mixed Try.func57 (by kernel_rfl) (by kernel_rfl) (fun x => by kernel_rfl)

def s_spec_l4Draw : Sig := { params := [.ioptr y105], res := [.val true y46] }
noncomputable def e_spec_l4Draw : Entry := ⟨s_spec_l4Draw, fun a => D.spec_l4Draw a⟩
noncomputable def v_spec_l4Draw : Env := { ti := look tab, Γ := fns [(57, [], e_spec_l1Below)], loop := fun _ => none, cut := fun _ => none, deep := fun _ => false }
theorem c_spec_l4Draw : Contract Try.prog 104 e_spec_l4Draw.sig e_spec_l4Draw.F :=
  den_is (E := v_spec_l4Draw) ⟨tab_ti, tab_eq⟩ (fns_cons c_spec_l1Below (fns_nil _)) mixed Try.func104 (by kernel_rfl) (by kernel_rfl) (fun x => by kernel_rfl)

def s_spec_l5Body : Sig := { params := [.ioptr y105], res := [.row 3 y3 false] }
noncomputable def e_spec_l5Body : Entry := ⟨s_spec_l5Body, fun a => D.spec_l5Body a⟩
noncomputable def v_spec_l5Body : Env := { ti := look tab, Γ := fns [(57, [], e_spec_l1Below)], loop := fun b => match b with | 0 => some [.slot 3 (.own 3 y3 false), .slot 4 (.int .i64), .box 0 [.ro 5 y5, .int .i64, .int .i64]] | _ => none, cut := fun _ => none, deep := fun _ => false }
theorem c_spec_l5Body : Contract Try.prog 105 e_spec_l5Body.sig e_spec_l5Body.F :=
  den_is (E := v_spec_l5Body) ⟨tab_ti, tab_eq⟩ (fns_cons c_spec_l1Below (fns_nil _)) mixed Try.func105 (by kernel_rfl) (by kernel_rfl) (fun x => by kernel_rfl)

def s_spec_l5Draw : Sig := { params := [.ioptr y105], res := [.val false y3, .row 3 y3 false, .val false y3, .val false y3, .val false y3], rgroups := [some 5] }
noncomputable def e_spec_l5Draw : Entry := ⟨s_spec_l5Draw, fun a => D.spec_l5Draw a⟩
noncomputable def v_spec_l5Draw : Env := { ti := look tab, Γ := fns [(57, [], e_spec_l1Below), (104, [], e_spec_l4Draw), (105, [], e_spec_l5Body)], loop := fun _ => none, cut := fun _ => none, deep := fun _ => false }
theorem c_spec_l5Draw : Contract Try.prog 80 e_spec_l5Draw.sig e_spec_l5Draw.F :=
  den_is (E := v_spec_l5Draw) ⟨tab_ti, tab_eq⟩ (fns_cons c_spec_l1Below (fns_cons c_spec_l4Draw (fns_cons c_spec_l5Body (fns_nil _)))) mixed Try.func80 (by kernel_rfl) (by kernel_rfl) (fun x => by kernel_rfl)

def s_spec_l1Int : Sig := { params := [.ioptr y105, .val false y22], res := [.val false y3] }
noncomputable def e_spec_l1Int : Entry := ⟨s_spec_l1Int, fun a => D.spec_l1Int a.1 a.2⟩
noncomputable def v_spec_l1Int : Env := { ti := look tab, Γ := fns [(57, [], e_spec_l1Below)], loop := fun _ => none, cut := fun _ => none, deep := fun _ => false }
theorem c_spec_l1Int : Contract Try.prog 62 e_spec_l1Int.sig e_spec_l1Int.F :=
  den_is (E := v_spec_l1Int) ⟨tab_ti, tab_eq⟩ (fns_cons c_spec_l1Below (fns_nil _)) mixed Try.func62 (by kernel_rfl) (by kernel_rfl) (fun x => by kernel_rfl)

def s_spec_l4Raw : Sig := { params := [.ioptr y105], res := [.val false y3] }
noncomputable def e_spec_l4Raw : Entry := ⟨s_spec_l4Raw, fun a => D.spec_l4Raw a⟩
noncomputable def v_spec_l4Raw : Env := { ti := look tab, Γ := fns [(62, [], e_spec_l1Int)], loop := fun _ => none, cut := fun _ => none, deep := fun _ => false }
theorem c_spec_l4Raw : Contract Try.prog 88 e_spec_l4Raw.sig e_spec_l4Raw.F :=
  den_is (E := v_spec_l4Raw) ⟨tab_ti, tab_eq⟩ (fns_cons c_spec_l1Int (fns_nil _)) mixed Try.func88 (by kernel_rfl) (by kernel_rfl) (fun x => by kernel_rfl)

def s_spec_l4Any : Sig := { params := [.ioptr y105], res := [.val true y46] }
noncomputable def e_spec_l4Any : Entry := ⟨s_spec_l4Any, fun a => D.spec_l4Any a⟩
noncomputable def v_spec_l4Any : Env := { ti := look tab, Γ := fns [(104, [], e_spec_l4Draw), (57, [], e_spec_l1Below), (88, [], e_spec_l4Raw)], loop := fun _ => none, cut := fun _ => none, deep := fun _ => false }
theorem c_spec_l4Any : Contract Try.prog 81 e_spec_l4Any.sig e_spec_l4Any.F :=
  den_is (E := v_spec_l4Any) ⟨tab_ti, tab_eq⟩ (fns_cons c_spec_l4Draw (fns_cons c_spec_l1Below (fns_cons c_spec_l4Raw (fns_nil _)))) mixed Try.func81 (by kernel_rfl) (by kernel_rfl) (fun x => by kernel_rfl)

def s_spec_l5Any : Sig := { params := [.ioptr y105], res := [.val false y3, .row 3 y3 false, .val false y3, .val false y3, .val false y3], rgroups := [some 5] }
noncomputable def e_spec_l5Any : Entry := ⟨s_spec_l5Any, fun a => D.spec_l5Any a⟩
noncomputable def v_spec_l5Any : Env := { ti := look tab, Γ := fns [(80, [], e_spec_l5Draw), (57, [], e_spec_l1Below), (62, [], e_spec_l1Int), (81, [], e_spec_l4Any)], loop := fun _ => none, cut := fun _ => none, deep := fun _ => false }
theorem c_spec_l5Any : Contract Try.prog 56 e_spec_l5Any.sig e_spec_l5Any.F :=
  den_is (E := v_spec_l5Any) ⟨tab_ti, tab_eq⟩ (fns_cons c_spec_l5Draw (fns_cons c_spec_l1Below (fns_cons c_spec_l1Int (fns_cons c_spec_l4Any (fns_nil _))))) mixed Try.func56 (by kernel_rfl) (by kernel_rfl) (fun x => by kernel_rfl)

def s_spec_ResourceInts : Sig := { params := [.val true y48], res := [.row 3 y3 false] }
noncomputable def e_spec_ResourceInts : Entry := ⟨s_spec_ResourceInts, fun a => D.spec_ResourceInts a⟩
noncomputable def v_spec_ResourceInts : Env := { ti := look tab, Γ := fns [], loop := fun _ => none, cut := fun _ => none, deep := fun _ => false }
theorem c_spec_ResourceInts : Contract Try.prog 84 e_spec_ResourceInts.sig e_spec_ResourceInts.F :=
  den_is (E := v_spec_ResourceInts) ⟨tab_ti, tab_eq⟩ (fns_nil _) mixed Try.func84 (by kernel_rfl) (by kernel_rfl) (fun x => by kernel_rfl)

def s_spec_l1In : Sig := { params := [.val false y3, .val false y3, .val false y3], res := [.val false y4] }
noncomputable def e_spec_l1In : Entry := ⟨s_spec_l1In, fun a => D.spec_l1In a.1 a.2.1 a.2.2⟩
noncomputable def v_spec_l1In : Env := { ti := look tab, Γ := fns [], loop := fun _ => none, cut := fun _ => none, deep := fun _ => false }
theorem c_spec_l1In : Contract Try.prog 46 e_spec_l1In.sig e_spec_l1In.F :=
  den_is (E := v_spec_l1In) ⟨tab_ti, tab_eq⟩ (fns_nil _) mixed Try.func46 (by kernel_rfl) (by kernel_rfl) (fun x => by kernel_rfl)

def s_spec_Mod : Sig := { params := [.val false y3, .val false y3], res := [.val false y3] }
noncomputable def e_spec_Mod : Entry := ⟨s_spec_Mod, fun a => D.spec_Mod a.1 a.2⟩
noncomputable def v_spec_Mod : Env := { ti := look tab, Γ := fns [(46, [], e_spec_l1In)], loop := fun _ => none, cut := fun _ => none, deep := fun _ => false }
theorem c_spec_Mod : Contract Try.prog 85 e_spec_Mod.sig e_spec_Mod.F :=
  den_is (E := v_spec_Mod) ⟨tab_ti, tab_eq⟩ (fns_cons c_spec_l1In (fns_nil _)) mixed Try.func85 (by kernel_rfl) (by kernel_rfl) (fun x => by kernel_rfl)

def s_spec_Hash : Sig := { params := [.val false y22], res := [.val false y3] }
noncomputable def e_spec_Hash : Entry := ⟨s_spec_Hash, fun a => D.spec_Hash a⟩
noncomputable def v_spec_Hash : Env := { ti := look tab, Γ := fns [(85, [], e_spec_Mod)], loop := fun b => match b with | 0 => some [.slot 3 (.int .i64), .slot 4 (.int .i64)] | _ => none, cut := fun _ => none, deep := fun _ => false }
theorem c_spec_Hash : Contract Try.prog 86 e_spec_Hash.sig e_spec_Hash.F :=
  den_is (E := v_spec_Hash) ⟨tab_ti, tab_eq⟩ (fns_cons c_spec_Mod (fns_nil _)) mixed Try.func86 (by kernel_rfl) (by kernel_rfl) (fun x => by kernel_rfl)

def s_spec_DigestOf : Sig := { params := [.val true y48], res := [.val false y3] }
noncomputable def e_spec_DigestOf : Entry := ⟨s_spec_DigestOf, fun a => D.spec_DigestOf a⟩
noncomputable def v_spec_DigestOf : Env := { ti := look tab, Γ := fns [(84, [], e_spec_ResourceInts), (86, [], e_spec_Hash)], loop := fun _ => none, cut := fun _ => none, deep := fun _ => false }
theorem c_spec_DigestOf : Contract Try.prog 60 e_spec_DigestOf.sig e_spec_DigestOf.F :=
  den_is (E := v_spec_DigestOf) ⟨tab_ti, tab_eq⟩ (fns_cons c_spec_ResourceInts (fns_cons c_spec_Hash (fns_nil _))) mixed Try.func60 (by kernel_rfl) (by kernel_rfl) (fun x => by kernel_rfl)

def s_spec_NonceFor : Sig := { params := [.val false y3, .val false y3, .val false y3], res := [.val false y3] }
noncomputable def e_spec_NonceFor : Entry := ⟨s_spec_NonceFor, fun a => D.spec_NonceFor a.1 a.2.1 a.2.2⟩
noncomputable def v_spec_NonceFor : Env := { ti := look tab, Γ := fns [(86, [], e_spec_Hash), (85, [], e_spec_Mod)], loop := fun _ => none, cut := fun _ => none, deep := fun _ => false }
theorem c_spec_NonceFor : Contract Try.prog 59 e_spec_NonceFor.sig e_spec_NonceFor.F :=
  den_is (E := v_spec_NonceFor) ⟨tab_ti, tab_eq⟩ (fns_cons c_spec_Hash (fns_cons c_spec_Mod (fns_nil _))) mixed Try.func59 (by kernel_rfl) (by kernel_rfl) (fun x => by kernel_rfl)

def s_spec_IsValidKey : Sig := { params := [.val false y3], res := [.val false y4] }
noncomputable def e_spec_IsValidKey : Entry := ⟨s_spec_IsValidKey, fun a => D.spec_IsValidKey a⟩
noncomputable def v_spec_IsValidKey : Env := { ti := look tab, Γ := fns [(46, [], e_spec_l1In)], loop := fun _ => none, cut := fun _ => none, deep := fun _ => false }
theorem c_spec_IsValidKey : Contract Try.prog 71 e_spec_IsValidKey.sig e_spec_IsValidKey.F :=
  den_is (E := v_spec_IsValidKey) ⟨tab_ti, tab_eq⟩ (fns_cons c_spec_l1In (fns_nil _)) mixed Try.func71 (by kernel_rfl) (by kernel_rfl) (fun x => by kernel_rfl)

def s_spec_KeyedHash : Sig := { params := [.val false y3, .val false y22], res := [.val false y3] }
noncomputable def e_spec_KeyedHash : Entry := ⟨s_spec_KeyedHash, fun a => D.spec_KeyedHash a.1 a.2⟩
noncomputable def v_spec_KeyedHash : Env := { ti := look tab, Γ := fns [(86, [], e_spec_Hash)], loop := fun _ => none, cut := fun _ => none, deep := fun _ => false }
theorem c_spec_KeyedHash : Contract Try.prog 83 e_spec_KeyedHash.sig e_spec_KeyedHash.F :=
  den_is (E := v_spec_KeyedHash) ⟨tab_ti, tab_eq⟩ (fns_cons c_spec_Hash (fns_nil _)) mixed Try.func83 (by kernel_rfl) (by kernel_rfl) (fun x => by kernel_rfl)

def s_spec_AnswerWith : Sig := { params := [.val true y48, .val false y3], res := [.val false y3] }
noncomputable def e_spec_AnswerWith : Entry := ⟨s_spec_AnswerWith, fun a => D.spec_AnswerWith a.1 a.2⟩
noncomputable def v_spec_AnswerWith : Env := { ti := look tab, Γ := fns [(71, [], e_spec_IsValidKey), (84, [], e_spec_ResourceInts), (83, [], e_spec_KeyedHash)], loop := fun _ => none, cut := fun _ => none, deep := fun _ => false }
theorem c_spec_AnswerWith : Contract Try.prog 58 e_spec_AnswerWith.sig e_spec_AnswerWith.F :=
  den_is (E := v_spec_AnswerWith) ⟨tab_ti, tab_eq⟩ (fns_cons c_spec_IsValidKey (fns_cons c_spec_ResourceInts (fns_cons c_spec_KeyedHash (fns_nil _)))) mixed Try.func58 (by kernel_rfl) (by kernel_rfl) (fun x => by kernel_rfl)

def s_spec_l1Once : Sig := { params := [.ioptr y105, .val false y3], res := [.val false y4] }
noncomputable def e_spec_l1Once : Entry := ⟨s_spec_l1Once, fun a => D.spec_l1Once a.1 a.2⟩
noncomputable def v_spec_l1Once : Env := { ti := look tab, Γ := fns [(57, [], e_spec_l1Below)], loop := fun _ => none, cut := fun _ => none, deep := fun _ => false }
theorem c_spec_l1Once : Contract Try.prog 61 e_spec_l1Once.sig e_spec_l1Once.F :=
  den_is (E := v_spec_l1Once) ⟨tab_ti, tab_eq⟩ (fns_cons c_spec_l1Below (fns_nil _)) mixed Try.func61 (by kernel_rfl) (by kernel_rfl) (fun x => by kernel_rfl)

def s_spec_DrawCheckAnswer : Sig := { params := [.val false y43], res := [.val false y3, .row 3 y3 false, .val false y3, .val false y3, .val false y3, .val false y3, .val false y3, .val false y3], rgroups := [some 5, none, none, none] }
noncomputable def e_spec_DrawCheckAnswer : Entry := ⟨s_spec_DrawCheckAnswer, fun a => D.spec_DrawCheckAnswer a⟩
noncomputable def v_spec_DrawCheckAnswer : Env := { ti := look tab, Γ := fns [(55, [], e_spec_l1New), (56, [], e_spec_l5Any), (57, [], e_spec_l1Below), (60, [], e_spec_DigestOf), (59, [], e_spec_NonceFor), (58, [], e_spec_AnswerWith), (61, [], e_spec_l1Once), (62, [], e_spec_l1Int)], loop := fun _ => none, cut := fun _ => none, deep := fun _ => false }
theorem c_spec_DrawCheckAnswer : Contract Try.prog 26 e_spec_DrawCheckAnswer.sig e_spec_DrawCheckAnswer.F :=
  den_is (E := v_spec_DrawCheckAnswer) ⟨tab_ti, tab_eq⟩ (fns_cons c_spec_l1New (fns_cons c_spec_l5Any (fns_cons c_spec_l1Below (fns_cons c_spec_DigestOf (fns_cons c_spec_NonceFor (fns_cons c_spec_AnswerWith (fns_cons c_spec_l1Once (fns_cons c_spec_l1Int (fns_nil _))))))))) mixed Try.func26 (by kernel_rfl) (by kernel_rfl) (fun x => by kernel_rfl)

def s_impl_ResourceInts : Sig := { params := [.val true y48], res := [.row 3 y3 false] }
noncomputable def e_impl_ResourceInts : Entry := ⟨s_impl_ResourceInts, fun a => D.impl_ResourceInts a⟩
noncomputable def v_impl_ResourceInts : Env := { ti := look tab, Γ := fns [], loop := fun _ => none, cut := fun _ => none, deep := fun _ => false }
theorem c_impl_ResourceInts : Contract Try.prog 65 e_impl_ResourceInts.sig e_impl_ResourceInts.F :=
  den_is (E := v_impl_ResourceInts) ⟨tab_ti, tab_eq⟩ (fns_nil _) mixed Try.func65 (by kernel_rfl) (by kernel_rfl) (fun x => by kernel_rfl)

def s_impl_InRange : Sig := { params := [.val false y3, .val false y3, .val false y3], res := [.val false y4] }
noncomputable def e_impl_InRange : Entry := ⟨s_impl_InRange, fun a => D.impl_InRange a.1 a.2.1 a.2.2⟩
noncomputable def v_impl_InRange : Env := { ti := look tab, Γ := fns [], loop := fun _ => none, cut := fun _ => none, deep := fun _ => false }
theorem c_impl_InRange : Contract Try.prog 48 e_impl_InRange.sig e_impl_InRange.F :=
  den_is (E := v_impl_InRange) ⟨tab_ti, tab_eq⟩ (fns_nil _) mixed Try.func48 (by kernel_rfl) (by kernel_rfl) (fun x => by kernel_rfl)

def s_impl_Mod : Sig := { params := [.val false y3, .val false y3], res := [.val false y3] }
noncomputable def e_impl_Mod : Entry := ⟨s_impl_Mod, fun a => D.impl_Mod a.1 a.2⟩
noncomputable def v_impl_Mod : Env := { ti := look tab, Γ := fns [(48, [], e_impl_InRange)], loop := fun _ => none, cut := fun _ => none, deep := fun _ => false }
theorem c_impl_Mod : Contract Try.prog 63 e_impl_Mod.sig e_impl_Mod.F :=
  den_is (E := v_impl_Mod) ⟨tab_ti, tab_eq⟩ (fns_cons c_impl_InRange (fns_nil _)) mixed Try.func63 (by kernel_rfl) (by kernel_rfl) (fun x => by kernel_rfl)

def s_impl_Hash : Sig := { params := [.val false y22], res := [.val false y3] }
noncomputable def e_impl_Hash : Entry := ⟨s_impl_Hash, fun a => D.impl_Hash a⟩
noncomputable def v_impl_Hash : Env := { ti := look tab, Γ := fns [(63, [], e_impl_Mod)], loop := fun b => match b with | 0 => some [.slot 3 (.int .i64), .slot 8 (.int .i64)] | _ => none, cut := fun _ => none, deep := fun _ => false }
theorem c_impl_Hash : Contract Try.prog 64 e_impl_Hash.sig e_impl_Hash.F :=
  den_is (E := v_impl_Hash) ⟨tab_ti, tab_eq⟩ (fns_cons c_impl_Mod (fns_nil _)) mixed Try.func64 (by kernel_rfl) (by kernel_rfl) (fun x => by kernel_rfl)

def s_impl_DigestOf : Sig := { params := [.val true y48], res := [.val false y3] }
noncomputable def e_impl_DigestOf : Entry := ⟨s_impl_DigestOf, fun a => D.impl_DigestOf a⟩
noncomputable def v_impl_DigestOf : Env := { ti := look tab, Γ := fns [(65, [], e_impl_ResourceInts), (64, [], e_impl_Hash)], loop := fun _ => none, cut := fun _ => none, deep := fun _ => false }
theorem c_impl_DigestOf : Contract Try.prog 28 e_impl_DigestOf.sig e_impl_DigestOf.F :=
  den_is (E := v_impl_DigestOf) ⟨tab_ti, tab_eq⟩ (fns_cons c_impl_ResourceInts (fns_cons c_impl_Hash (fns_nil _))) mixed Try.func28 (by kernel_rfl) (by kernel_rfl) (fun x => by kernel_rfl)

def s_impl_NonceFor : Sig := { params := [.val false y3, .val false y3, .val false y3], res := [.val false y3] }
noncomputable def e_impl_NonceFor : Entry := ⟨s_impl_NonceFor, fun a => D.impl_NonceFor a.1 a.2.1 a.2.2⟩
noncomputable def v_impl_NonceFor : Env := { ti := look tab, Γ := fns [(64, [], e_impl_Hash), (63, [], e_impl_Mod)], loop := fun _ => none, cut := fun _ => none, deep := fun _ => false }
theorem c_impl_NonceFor : Contract Try.prog 27 e_impl_NonceFor.sig e_impl_NonceFor.F :=
  den_is (E := v_impl_NonceFor) ⟨tab_ti, tab_eq⟩ (fns_cons c_impl_Hash (fns_cons c_impl_Mod (fns_nil _))) mixed Try.func27 (by kernel_rfl) (by kernel_rfl) (fun x => by kernel_rfl)

def s_impl_IsValidKey : Sig := { params := [.val false y3], res := [.val false y4] }
noncomputable def e_impl_IsValidKey : Entry := ⟨s_impl_IsValidKey, fun a => D.impl_IsValidKey a⟩
noncomputable def v_impl_IsValidKey : Env := { ti := look tab, Γ := fns [(48, [], e_impl_InRange)], loop := fun _ => none, cut := fun _ => none, deep := fun _ => false }
theorem c_impl_IsValidKey : Contract Try.prog 38 e_impl_IsValidKey.sig e_impl_IsValidKey.F :=
  den_is (E := v_impl_IsValidKey) ⟨tab_ti, tab_eq⟩ (fns_cons c_impl_InRange (fns_nil _)) mixed Try.func38 (by kernel_rfl) (by kernel_rfl) (fun x => by kernel_rfl)

def s_impl_KeyedHash : Sig := { params := [.val false y3, .val false y22], res := [.val false y3] }
noncomputable def e_impl_KeyedHash : Entry := ⟨s_impl_KeyedHash, fun a => D.impl_KeyedHash a.1 a.2⟩
noncomputable def v_impl_KeyedHash : Env := { ti := look tab, Γ := fns [(64, [], e_impl_Hash)], loop := fun _ => none, cut := fun _ => none, deep := fun _ => false }
theorem c_impl_KeyedHash : Contract Try.prog 66 e_impl_KeyedHash.sig e_impl_KeyedHash.F :=
  den_is (E := v_impl_KeyedHash) ⟨tab_ti, tab_eq⟩ (fns_cons c_impl_Hash (fns_nil _)) mixed Try.func66 (by kernel_rfl) (by kernel_rfl) (fun x => by kernel_rfl)

def s_impl_AnswerWith : Sig := { params := [.val true y48, .val false y3], res := [.val false y3] }
noncomputable def e_impl_AnswerWith : Entry := ⟨s_impl_AnswerWith, fun a => D.impl_AnswerWith a.1 a.2⟩
noncomputable def v_impl_AnswerWith : Env := { ti := look tab, Γ := fns [(38, [], e_impl_IsValidKey), (65, [], e_impl_ResourceInts), (66, [], e_impl_KeyedHash)], loop := fun _ => none, cut := fun _ => none, deep := fun _ => false }
theorem c_impl_AnswerWith : Contract Try.prog 29 e_impl_AnswerWith.sig e_impl_AnswerWith.F :=
  den_is (E := v_impl_AnswerWith) ⟨tab_ti, tab_eq⟩ (fns_cons c_impl_IsValidKey (fns_cons c_impl_ResourceInts (fns_cons c_impl_KeyedHash (fns_nil _)))) mixed Try.func29 (by kernel_rfl) (by kernel_rfl) (fun x => by kernel_rfl)

def s_impl_rightAnswer : Sig := { params := [.val true y48, .val false y3, .val false y3], res := [.val false y3] }
noncomputable def e_impl_rightAnswer : Entry := ⟨s_impl_rightAnswer, fun a => D.impl_rightAnswer a.1 a.2.1 a.2.2⟩
noncomputable def v_impl_rightAnswer : Env := { ti := look tab, Γ := fns [(28, [], e_impl_DigestOf), (27, [], e_impl_NonceFor), (29, [], e_impl_AnswerWith)], loop := fun _ => none, cut := fun _ => none, deep := fun _ => false }
theorem c_impl_rightAnswer : Contract Try.prog 67 e_impl_rightAnswer.sig e_impl_rightAnswer.F :=
  den_is (E := v_impl_rightAnswer) ⟨tab_ti, tab_eq⟩ (fns_cons c_impl_DigestOf (fns_cons c_impl_NonceFor (fns_cons c_impl_AnswerWith (fns_nil _)))) mixed Try.func67 (by kernel_rfl) (by kernel_rfl) (fun x => by kernel_rfl)

def s_impl_CheckAnswer : Sig := { params := [.val true y48, .val false y3, .val false y3, .val false y3], res := [.val false y4] }
noncomputable def e_impl_CheckAnswer : Entry := ⟨s_impl_CheckAnswer, fun a => D.impl_CheckAnswer a.1 a.2.1 a.2.2.1 a.2.2.2⟩
noncomputable def v_impl_CheckAnswer : Env := { ti := look tab, Γ := fns [(67, [], e_impl_rightAnswer)], loop := fun _ => none, cut := fun _ => none, deep := fun _ => false }
theorem c_impl_CheckAnswer : Contract Try.prog 30 e_impl_CheckAnswer.sig e_impl_CheckAnswer.F :=
  den_is (E := v_impl_CheckAnswer) ⟨tab_ti, tab_eq⟩ (fns_cons c_impl_rightAnswer (fns_nil _)) mixed Try.func30 (by kernel_rfl) (by kernel_rfl) (fun x => by kernel_rfl)

def s_spec_DrawServesOther : Sig := { params := [.val false y43], res := [.val false y3, .row 3 y3 false, .val false y3, .val false y3, .val false y3, .val false y3, .val false y3, .val false y3], rgroups := [some 5, none, none, none] }
noncomputable def e_spec_DrawServesOther : Entry := ⟨s_spec_DrawServesOther, fun a => D.spec_DrawServesOther a⟩
noncomputable def v_spec_DrawServesOther : Env := { ti := look tab, Γ := fns [(26, [], e_spec_DrawCheckAnswer), (55, [], e_spec_l1New), (57, [], e_spec_l1Below)], loop := fun _ => none, cut := fun _ => none, deep := fun _ => false }
theorem c_spec_DrawServesOther : Contract Try.prog 31 e_spec_DrawServesOther.sig e_spec_DrawServesOther.F :=
  den_is (E := v_spec_DrawServesOther) ⟨tab_ti, tab_eq⟩ (fns_cons c_spec_DrawCheckAnswer (fns_cons c_spec_l1New (fns_cons c_spec_l1Below (fns_nil _)))) mixed Try.func31 (by kernel_rfl) (by kernel_rfl) (fun x => by kernel_rfl)

def s_impl_ServesOther : Sig := { params := [.val true y48, .val false y3, .val false y3, .val false y3], res := [.val false y4] }
noncomputable def e_impl_ServesOther : Entry := ⟨s_impl_ServesOther, fun a => D.impl_ServesOther a.1 a.2.1 a.2.2.1 a.2.2.2⟩
noncomputable def v_impl_ServesOther : Env := { ti := look tab, Γ := fns [(67, [], e_impl_rightAnswer), (30, [], e_impl_CheckAnswer)], loop := fun _ => none, cut := fun _ => none, deep := fun _ => false }
theorem c_impl_ServesOther : Contract Try.prog 32 e_impl_ServesOther.sig e_impl_ServesOther.F :=
  den_is (E := v_impl_ServesOther) ⟨tab_ti, tab_eq⟩ (fns_cons c_impl_rightAnswer (fns_cons c_impl_CheckAnswer (fns_nil _))) mixed Try.func32 (by kernel_rfl) (by kernel_rfl) (fun x => by kernel_rfl)

def s_spec_DrawCountProofs : Sig := { params := [.val false y43], res := [.val false y3, .row 3 y3 false, .val false y3, .val false y3, .val false y3, .row 3 y3 false, .val false y3], rgroups := [some 5, none, none] }
noncomputable def e_spec_DrawCountProofs : Entry := ⟨s_spec_DrawCountProofs, fun a => D.spec_DrawCountProofs a⟩
noncomputable def v_spec_DrawCountProofs : Env := { ti := look tab, Γ := fns [(26, [], e_spec_DrawCheckAnswer), (55, [], e_spec_l1New), (60, [], e_spec_DigestOf), (59, [], e_spec_NonceFor), (58, [], e_spec_AnswerWith), (61, [], e_spec_l1Once)], loop := fun b => match b with | 0 => some [.slot 10 (.own 3 y3 false), .slot 11 (.int .i64), .box 9 [.ro 5 y5, .int .i64, .int .i64]] | _ => none, cut := fun _ => none, deep := fun _ => false }
theorem c_spec_DrawCountProofs : Contract Try.prog 33 e_spec_DrawCountProofs.sig e_spec_DrawCountProofs.F :=
  den_is (E := v_spec_DrawCountProofs) ⟨tab_ti, tab_eq⟩ (fns_cons c_spec_DrawCheckAnswer (fns_cons c_spec_l1New (fns_cons c_spec_DigestOf (fns_cons c_spec_NonceFor (fns_cons c_spec_AnswerWith (fns_cons c_spec_l1Once (fns_nil _))))))) mixed Try.func33 (by kernel_rfl) (by kernel_rfl) (fun x => by kernel_rfl)

def s_impl_CountProofs : Sig := { params := [.val true y48, .val false y22, .val false y3], res := [.val false y3] }
noncomputable def e_impl_CountProofs : Entry := ⟨s_impl_CountProofs, fun a => D.impl_CountProofs a.1 a.2.1 a.2.2⟩
noncomputable def v_impl_CountProofs : Env := { ti := look tab, Γ := fns [(30, [], e_impl_CheckAnswer)], loop := fun b => match b with | 0 => some [.slot 7 (.int .i64), .slot 12 (.int .i64)] | _ => none, cut := fun _ => none, deep := fun _ => false }
theorem c_impl_CountProofs : Contract Try.prog 34 e_impl_CountProofs.sig e_impl_CountProofs.F :=
  den_is (E := v_impl_CountProofs) ⟨tab_ti, tab_eq⟩ (fns_cons c_impl_CheckAnswer (fns_nil _)) mixed Try.func34 (by kernel_rfl) (by kernel_rfl) (fun x => by kernel_rfl)

def s_laws_FnPossession : Sig := { params := [.val false y43], res := [.val false y4] }
noncomputable def e_laws_FnPossession : Entry := ⟨s_laws_FnPossession, fun a => D.laws_FnPossession a⟩
noncomputable def v_laws_FnPossession : Env := { ti := look tab, Γ := fns [(25, [], e_laws_big), (26, [], e_spec_DrawCheckAnswer), (28, [], e_impl_DigestOf), (27, [], e_impl_NonceFor), (29, [], e_impl_AnswerWith), (30, [], e_impl_CheckAnswer), (31, [], e_spec_DrawServesOther), (32, [], e_impl_ServesOther), (33, [], e_spec_DrawCountProofs), (34, [], e_impl_CountProofs)], loop := fun b => match b with | 0 => some [.slot 16 (.int .i64), .slot 17 (.int .i64)] | _ => none, cut := fun _ => none, deep := fun _ => false }
theorem c_laws_FnPossession : Contract Try.prog 6 e_laws_FnPossession.sig e_laws_FnPossession.F :=
  den_is (E := v_laws_FnPossession) ⟨tab_ti, tab_eq⟩ (fns_cons c_laws_big (fns_cons c_spec_DrawCheckAnswer (fns_cons c_impl_DigestOf (fns_cons c_impl_NonceFor (fns_cons c_impl_AnswerWith (fns_cons c_impl_CheckAnswer (fns_cons c_spec_DrawServesOther (fns_cons c_impl_ServesOther (fns_cons c_spec_DrawCountProofs (fns_cons c_impl_CountProofs (fns_nil _))))))))))) mixed Try.func6 (by kernel_rfl) (by kernel_rfl) (fun x => by kernel_rfl)

theorem law_true (a : Tup (s_laws_FnPossession.params.map PTy.den)) (hok : argsOk Try.prog s_laws_FnPossession.params a) : D.laws_FnPossession a = some true := D.FnPossession_true a (Ty.ok_bd (P := Try.prog) (t := y43) (by kernel_rfl) hok.1)
theorem lifted (os : Os) (started : os.Started) (H : Type) (enc : TypeId × Value → H) :
    ReturnsInHanded {} Try.checked os 6 .any (Rows.fnPossessionSpec.pre6 enc Try.prog Try.f6 Rows.fnPossessionRow.domain false) (Rows.fnPossessionSpec.post enc Try.prog Try.f6 false true false false) := by
  refine returnsInHanded_of_change_sized (C := Try.checked) (by kernel_rfl) started (by kernel_rfl) Try.func6
    (ChangeSpec.witness6 (enc := enc) (C := Try.checked) false ⟨#[], #[.slice none 0 0], []⟩ 8 (by kernel_rfl) (by kernel_rfl) (by kernel_rfl) (by kernel_rfl)) ?_
  intro W base args ds gs before hval hW hcnd hsz _
  exact law_row (C := Try.checked) rfl c_laws_FnPossession (N := 8) (by kernel_rfl) (tb := 4) (by kernel_rfl) (by kernel_rfl) (by kernel_rfl) (by kernel_rfl) rfl
    (fun ds h => by
      have h : ds.length = 1 := h
      match ds, h with
      | [d0], _ => rfl)
    bulky_sizeOf (small := fun _ => True) (fun a ds hok _ _ => ⟨_, law_true a hok, rfl⟩) hval hW hsz trivial

theorem over : Rows.fnPossessionRow.holds Try.pinned (OpenSpec.ofChange Rows.fnPossessionSpec) :=
  OpenClaim.holds_of_wide 6 Try.f6 rfl rfl rfl rfl rfl rfl rfl ⟨rfl, rfl, rfl, rfl, rfl⟩ rfl rfl rfl rfl rfl (by kernel_rfl) Try.func6 (by kernel_rfl)
    (of_decide_eq_true (by kernel_rfl)) (by unfold Func.isWrapper; first | (rw [if_pos (by decide +kernel)]; kernel_rfl) | (rw [if_neg (by decide +kernel)]; exact ⟨rfl, rfl⟩))
    (fun os started H enc _ => lifted os started H enc)
end Go.Proofs.Ytombapmoifkmlaa.SxFnPossession
namespace Go.Proofs.Ytombapmoifkmlaa
theorem fnPossession_holds : Rows.FnPossessionSaid := SxFnPossession.over
end Go.Proofs.Ytombapmoifkmlaa
