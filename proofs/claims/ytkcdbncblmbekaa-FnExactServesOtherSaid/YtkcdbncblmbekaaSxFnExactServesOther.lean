/- FnExactServesOther returns true for every input, and each input reads as it did. No condition. -/
import Derived.Test.YtkcdbncblmbekaaRows
import Derived.Test.YtkcdbncblmbekaaPuFnExactServesOther
import Derived.WalkKit
import Derived.ProofKit
import Derived.ShutString
import Derived.SizedLaws
set_option linter.unusedVariables false
set_option maxRecDepth 100000
set_option maxHeartbeats 4000000
namespace Go.Proofs.Ytkcdbncblmbekaa.SxFnExactServesOther
open Go Go.Sh Go.RowKit
def y3 : Ty := .int .i64
def y4 : Ty := .bool
def y30 : Ty := .slice 3 y3
def y43 : Ty := .pair y3 (.pair y3 y3)
def y45 : Ty := .pair y3 (.pair y30 y43)
def y48 : Ty := .pair y3 (.pair y3 y3)
def y50 : Ty := .pair y3 (.pair y30 y48)
def tab : List (TypeId × TI) := [(3, { size := 1, bytes := 8, agg := false, ty := some y3 }),
  (4, { size := 1, bytes := 1, agg := false, ty := some y4 }),
  (30, { size := 1, bytes := 24, agg := false, ty := some y30, elem := some 3 }),
  (43, { size := 3, bytes := 24, agg := true, ty := some y43, fields := [(0, 3), (1, 3), (2, 3)] }),
  (45, { size := 5, bytes := 56, agg := true, ty := some y45, fields := [(0, 3), (1, 30), (2, 43)] }),
  (48, { size := 3, bytes := 24, agg := true, ty := some y48, fields := [(0, 3), (1, 3), (2, 3)] }),
  (50, { size := 5, bytes := 56, agg := true, ty := some y50, fields := [(0, 3), (1, 30), (2, 48)] })]
def look : List (TypeId × TI) → TypeId → Option TI
  | [], _ => none
  | (k, i) :: r, t => if Nat.beq t k = true then some i else look r t
theorem look_ok {P : Program} : ∀ {l : List (TypeId × TI)}, (l.all fun p => tiOk P p.1 p.2) = true → ∀ t i, look l t = some i → tiOk P t i = true
  | [], _, t, i, h => by simp [look] at h
  | (k, j) :: r, h0, t, i, h => by
    simp only [List.all_cons, Bool.and_eq_true] at h0
    simp only [look] at h
    split at h
    · rename_i hk
      simp only [Option.some.injEq] at h
      have := Nat.eq_of_beq_eq_true hk
      subst this; subst h; exact h0.1
    · exact look_ok h0.2 t i h
theorem look_eq {P : Program} : ∀ {l : List (TypeId × TI)}, (l.all fun p => !p.2.eq || eqTop P p.1 p.2.ty) = true → ∀ t i, look l t = some i → i.eq = true → ∀ ty, i.ty = some ty → EqLaw P t ty.zero
  | [], _, t, i, h => by simp [look] at h
  | (k, j) :: r, h0, t, i, h => by
    simp only [List.all_cons, Bool.and_eq_true, Bool.or_eq_true, Bool.not_eq_true'] at h0
    simp only [look] at h
    split at h
    · rename_i hk
      simp only [Option.some.injEq] at h
      have := Nat.eq_of_beq_eq_true hk
      subst this; subst h
      intro he
      exact eqLaw_of (h0.1.resolve_left (by simp [he]))
    · exact look_eq h0.2 t i h
def same : List Nat → List Nat → Bool
  | [], [] => true
  | a :: x, b :: y => Nat.beq a b && same x y
  | _, _ => false
theorem same_eq : ∀ {x y : List Nat}, same x y = true → x = y
  | [], [], _ => rfl
  | a :: x, b :: y, h => by
    simp only [same, Bool.and_eq_true] at h
    rw [Nat.eq_of_beq_eq_true h.1, same_eq h.2]
  | [], _ :: _, h => by simp [same] at h
  | _ :: _, [], h => by simp [same] at h
def fns : List (FuncId × List FuncId × Entry) → FuncId → List FuncId → Option Entry
  | [], _, _ => none
  | (k, c, e) :: r, f, fs => if (Nat.beq f k && same fs c) = true then some e else fns r f fs
theorem fns_nil (P : Program) : ∀ f fs en, fns [] f fs = some en → Contract P f en.sig en.F := fun f fs en h => by simp [fns] at h
theorem fns_cons {P : Program} {k : FuncId} {c : List FuncId} {e : Entry} {r : List (FuncId × List FuncId × Entry)} (hk : Contract P k e.sig e.F) (hr : ∀ f fs en, fns r f fs = some en → Contract P f en.sig en.F) : ∀ f fs en, fns ((k, c, e) :: r) f fs = some en → Contract P f en.sig en.F := fun f fs en h => by
  simp only [fns] at h
  split at h
  · rename_i hf
    simp only [Bool.and_eq_true] at hf
    simp only [Option.some.injEq] at h
    have := Nat.eq_of_beq_eq_true hf.1
    subst this; subst h; exact hk
  · exact hr f fs en h

theorem tab_ti : ∀ t i, look tab t = some i → tiOk Try.prog t i = true := look_ok (by kernel_rfl)
theorem tab_eq : ∀ t i, look tab t = some i → i.eq = true → ∀ ty, i.ty = some ty → EqLaw Try.prog t ty.zero := look_eq (by kernel_rfl)
theorem mixed : Try.prog.follows .mixedOrders = true := by kernel_rfl
def s_laws_szIntS : Sig := { params := [.val false y30, .val false y3], res := [.val false y3] }
noncomputable def e_laws_szIntS : Entry := ⟨s_laws_szIntS, fun a => D.laws_szIntS a.1 a.2⟩
noncomputable def v_laws_szIntS : Env := { ti := look tab, Γ := fns [], loop := fun _ => none, cut := fun _ => none, deep := fun _ => false }
theorem c_laws_szIntS : Contract Try.prog 72 e_laws_szIntS.sig e_laws_szIntS.F :=
  den_is (E := v_laws_szIntS) ⟨tab_ti, tab_eq⟩ (fns_nil _) mixed Try.func72 (by kernel_rfl) (by kernel_rfl) (fun x => by kernel_rfl)

def s_laws_szResource : Sig := { params := [.val true y45, .val false y3], res := [.val false y3] }
noncomputable def e_laws_szResource : Entry := ⟨s_laws_szResource, fun a => D.laws_szResource a.1 a.2⟩
noncomputable def v_laws_szResource : Env := { ti := look tab, Γ := fns [(72, [], e_laws_szIntS)], loop := fun _ => none, cut := fun _ => none, deep := fun _ => false }
theorem c_laws_szResource : Contract Try.prog 30 e_laws_szResource.sig e_laws_szResource.F :=
  den_is (E := v_laws_szResource) ⟨tab_ti, tab_eq⟩ (fns_cons c_laws_szIntS (fns_nil _)) mixed Try.func30 (by kernel_rfl) (by kernel_rfl) (fun x => by kernel_rfl)

def s_laws_toIntS : Sig := { params := [.val false y30], res := [.row 3 y3 false] }
noncomputable def e_laws_toIntS : Entry := ⟨s_laws_toIntS, fun a => D.laws_toIntS a⟩
noncomputable def v_laws_toIntS : Env := { ti := look tab, Γ := fns [], loop := fun b => match b with | 0 => some [.slot 4 (.int .i64), .vec 3 3 y3 false] | _ => none, cut := fun _ => none, deep := fun _ => false }
theorem c_laws_toIntS : Contract Try.prog 21 e_laws_toIntS.sig e_laws_toIntS.F :=
  den_is (E := v_laws_toIntS) ⟨tab_ti, tab_eq⟩ (fns_nil _) mixed Try.func21 (by kernel_rfl) (by kernel_rfl) (fun x => by kernel_rfl)

def s_laws_toAddress : Sig := { params := [.val true y43], res := [.val true y48] }
noncomputable def e_laws_toAddress : Entry := ⟨s_laws_toAddress, fun a => D.laws_toAddress a⟩
noncomputable def v_laws_toAddress : Env := { ti := look tab, Γ := fns [], loop := fun _ => none, cut := fun _ => none, deep := fun _ => false }
theorem c_laws_toAddress : Contract Try.prog 76 e_laws_toAddress.sig e_laws_toAddress.F :=
  den_is (E := v_laws_toAddress) ⟨tab_ti, tab_eq⟩ (fns_nil _) mixed Try.func76 (by kernel_rfl) (by kernel_rfl) (fun x => by kernel_rfl)

def s_laws_toResource : Sig := { params := [.val true y45], res := [.val true y50] }
noncomputable def e_laws_toResource : Entry := ⟨s_laws_toResource, fun a => D.laws_toResource a⟩
noncomputable def v_laws_toResource : Env := { ti := look tab, Γ := fns [(21, [], e_laws_toIntS), (76, [], e_laws_toAddress)], loop := fun _ => none, cut := fun _ => none, deep := fun _ => false }
theorem c_laws_toResource : Contract Try.prog 32 e_laws_toResource.sig e_laws_toResource.F :=
  den_is (E := v_laws_toResource) ⟨tab_ti, tab_eq⟩ (fns_cons c_laws_toIntS (fns_cons c_laws_toAddress (fns_nil _))) mixed Try.func32 (by kernel_rfl) (by kernel_rfl) (fun x => by kernel_rfl)

def s_spec_ResourceInts : Sig := { params := [.val true y50], res := [.row 3 y3 false] }
noncomputable def e_spec_ResourceInts : Entry := ⟨s_spec_ResourceInts, fun a => D.spec_ResourceInts a⟩
noncomputable def v_spec_ResourceInts : Env := { ti := look tab, Γ := fns [], loop := fun _ => none, cut := fun _ => none, deep := fun _ => false }
theorem c_spec_ResourceInts : Contract Try.prog 99 e_spec_ResourceInts.sig e_spec_ResourceInts.F :=
  den_is (E := v_spec_ResourceInts) ⟨tab_ti, tab_eq⟩ (fns_nil _) mixed Try.func99 (by kernel_rfl) (by kernel_rfl) (fun x => by kernel_rfl)

def s_spec_l1In : Sig := { params := [.val false y3, .val false y3, .val false y3], res := [.val false y4] }
noncomputable def e_spec_l1In : Entry := ⟨s_spec_l1In, fun a => D.spec_l1In a.1 a.2.1 a.2.2⟩
noncomputable def v_spec_l1In : Env := { ti := look tab, Γ := fns [], loop := fun _ => none, cut := fun _ => none, deep := fun _ => false }
theorem c_spec_l1In : Contract Try.prog 64 e_spec_l1In.sig e_spec_l1In.F :=
  den_is (E := v_spec_l1In) ⟨tab_ti, tab_eq⟩ (fns_nil _) mixed Try.func64 (by kernel_rfl) (by kernel_rfl) (fun x => by kernel_rfl)

def s_spec_Mod : Sig := { params := [.val false y3, .val false y3], res := [.val false y3] }
noncomputable def e_spec_Mod : Entry := ⟨s_spec_Mod, fun a => D.spec_Mod a.1 a.2⟩
noncomputable def v_spec_Mod : Env := { ti := look tab, Γ := fns [(64, [], e_spec_l1In)], loop := fun _ => none, cut := fun _ => none, deep := fun _ => false }
theorem c_spec_Mod : Contract Try.prog 100 e_spec_Mod.sig e_spec_Mod.F :=
  den_is (E := v_spec_Mod) ⟨tab_ti, tab_eq⟩ (fns_cons c_spec_l1In (fns_nil _)) mixed Try.func100 (by kernel_rfl) (by kernel_rfl) (fun x => by kernel_rfl)

def s_spec_Hash : Sig := { params := [.val false y30], res := [.val false y3] }
noncomputable def e_spec_Hash : Entry := ⟨s_spec_Hash, fun a => D.spec_Hash a⟩
noncomputable def v_spec_Hash : Env := { ti := look tab, Γ := fns [(100, [], e_spec_Mod)], loop := fun b => match b with | 0 => some [.slot 3 (.int .i64), .slot 4 (.int .i64)] | _ => none, cut := fun _ => none, deep := fun _ => false }
theorem c_spec_Hash : Contract Try.prog 93 e_spec_Hash.sig e_spec_Hash.F :=
  den_is (E := v_spec_Hash) ⟨tab_ti, tab_eq⟩ (fns_cons c_spec_Mod (fns_nil _)) mixed Try.func93 (by kernel_rfl) (by kernel_rfl) (fun x => by kernel_rfl)

def s_spec_DigestOf : Sig := { params := [.val true y50], res := [.val false y3] }
noncomputable def e_spec_DigestOf : Entry := ⟨s_spec_DigestOf, fun a => D.spec_DigestOf a⟩
noncomputable def v_spec_DigestOf : Env := { ti := look tab, Γ := fns [(99, [], e_spec_ResourceInts), (93, [], e_spec_Hash)], loop := fun _ => none, cut := fun _ => none, deep := fun _ => false }
theorem c_spec_DigestOf : Contract Try.prog 75 e_spec_DigestOf.sig e_spec_DigestOf.F :=
  den_is (E := v_spec_DigestOf) ⟨tab_ti, tab_eq⟩ (fns_cons c_spec_ResourceInts (fns_cons c_spec_Hash (fns_nil _))) mixed Try.func75 (by kernel_rfl) (by kernel_rfl) (fun x => by kernel_rfl)

def s_spec_NonceFor : Sig := { params := [.val false y3, .val false y3, .val false y3], res := [.val false y3] }
noncomputable def e_spec_NonceFor : Entry := ⟨s_spec_NonceFor, fun a => D.spec_NonceFor a.1 a.2.1 a.2.2⟩
noncomputable def v_spec_NonceFor : Env := { ti := look tab, Γ := fns [(93, [], e_spec_Hash), (100, [], e_spec_Mod)], loop := fun _ => none, cut := fun _ => none, deep := fun _ => false }
theorem c_spec_NonceFor : Contract Try.prog 74 e_spec_NonceFor.sig e_spec_NonceFor.F :=
  den_is (E := v_spec_NonceFor) ⟨tab_ti, tab_eq⟩ (fns_cons c_spec_Hash (fns_cons c_spec_Mod (fns_nil _))) mixed Try.func74 (by kernel_rfl) (by kernel_rfl) (fun x => by kernel_rfl)

def s_spec_IsValidKey : Sig := { params := [.val false y3], res := [.val false y4] }
noncomputable def e_spec_IsValidKey : Entry := ⟨s_spec_IsValidKey, fun a => D.spec_IsValidKey a⟩
noncomputable def v_spec_IsValidKey : Env := { ti := look tab, Γ := fns [(64, [], e_spec_l1In)], loop := fun _ => none, cut := fun _ => none, deep := fun _ => false }
theorem c_spec_IsValidKey : Contract Try.prog 97 e_spec_IsValidKey.sig e_spec_IsValidKey.F :=
  den_is (E := v_spec_IsValidKey) ⟨tab_ti, tab_eq⟩ (fns_cons c_spec_l1In (fns_nil _)) mixed Try.func97 (by kernel_rfl) (by kernel_rfl) (fun x => by kernel_rfl)

def s_spec_KeyedHash : Sig := { params := [.val false y3, .val false y30], res := [.val false y3] }
noncomputable def e_spec_KeyedHash : Entry := ⟨s_spec_KeyedHash, fun a => D.spec_KeyedHash a.1 a.2⟩
noncomputable def v_spec_KeyedHash : Env := { ti := look tab, Γ := fns [(93, [], e_spec_Hash)], loop := fun _ => none, cut := fun _ => none, deep := fun _ => false }
theorem c_spec_KeyedHash : Contract Try.prog 98 e_spec_KeyedHash.sig e_spec_KeyedHash.F :=
  den_is (E := v_spec_KeyedHash) ⟨tab_ti, tab_eq⟩ (fns_cons c_spec_Hash (fns_nil _)) mixed Try.func98 (by kernel_rfl) (by kernel_rfl) (fun x => by kernel_rfl)

def s_spec_AnswerWith : Sig := { params := [.val true y50, .val false y3], res := [.val false y3] }
noncomputable def e_spec_AnswerWith : Entry := ⟨s_spec_AnswerWith, fun a => D.spec_AnswerWith a.1 a.2⟩
noncomputable def v_spec_AnswerWith : Env := { ti := look tab, Γ := fns [(97, [], e_spec_IsValidKey), (99, [], e_spec_ResourceInts), (98, [], e_spec_KeyedHash)], loop := fun _ => none, cut := fun _ => none, deep := fun _ => false }
theorem c_spec_AnswerWith : Contract Try.prog 73 e_spec_AnswerWith.sig e_spec_AnswerWith.F :=
  den_is (E := v_spec_AnswerWith) ⟨tab_ti, tab_eq⟩ (fns_cons c_spec_IsValidKey (fns_cons c_spec_ResourceInts (fns_cons c_spec_KeyedHash (fns_nil _)))) mixed Try.func73 (by kernel_rfl) (by kernel_rfl) (fun x => by kernel_rfl)

def s_spec_CheckAnswer : Sig := { params := [.val true y50, .val false y3, .val false y3, .val false y3], res := [.val false y4] }
noncomputable def e_spec_CheckAnswer : Entry := ⟨s_spec_CheckAnswer, fun a => D.spec_CheckAnswer a.1 a.2.1 a.2.2.1 a.2.2.2⟩
noncomputable def v_spec_CheckAnswer : Env := { ti := look tab, Γ := fns [(75, [], e_spec_DigestOf), (74, [], e_spec_NonceFor), (73, [], e_spec_AnswerWith)], loop := fun _ => none, cut := fun _ => none, deep := fun _ => false }
theorem c_spec_CheckAnswer : Contract Try.prog 31 e_spec_CheckAnswer.sig e_spec_CheckAnswer.F :=
  den_is (E := v_spec_CheckAnswer) ⟨tab_ti, tab_eq⟩ (fns_cons c_spec_DigestOf (fns_cons c_spec_NonceFor (fns_cons c_spec_AnswerWith (fns_nil _)))) mixed Try.func31 (by kernel_rfl) (by kernel_rfl) (fun x => by kernel_rfl)

def s_spec_ServesOther : Sig := { params := [.val true y50, .val false y3, .val false y3, .val false y3], res := [.val false y4] }
noncomputable def e_spec_ServesOther : Entry := ⟨s_spec_ServesOther, fun a => D.spec_ServesOther a.1 a.2.1 a.2.2.1 a.2.2.2⟩
noncomputable def v_spec_ServesOther : Env := { ti := look tab, Γ := fns [(75, [], e_spec_DigestOf), (74, [], e_spec_NonceFor), (73, [], e_spec_AnswerWith), (31, [], e_spec_CheckAnswer)], loop := fun _ => none, cut := fun _ => none, deep := fun _ => false }
theorem c_spec_ServesOther : Contract Try.prog 49 e_spec_ServesOther.sig e_spec_ServesOther.F :=
  den_is (E := v_spec_ServesOther) ⟨tab_ti, tab_eq⟩ (fns_cons c_spec_DigestOf (fns_cons c_spec_NonceFor (fns_cons c_spec_AnswerWith (fns_cons c_spec_CheckAnswer (fns_nil _))))) mixed Try.func49 (by kernel_rfl) (by kernel_rfl) (fun x => by kernel_rfl)

def s_impl_ResourceInts : Sig := { params := [.val true y50], res := [.row 3 y3 false] }
noncomputable def e_impl_ResourceInts : Entry := ⟨s_impl_ResourceInts, fun a => D.impl_ResourceInts a⟩
noncomputable def v_impl_ResourceInts : Env := { ti := look tab, Γ := fns [], loop := fun _ => none, cut := fun _ => none, deep := fun _ => false }
theorem c_impl_ResourceInts : Contract Try.prog 113 e_impl_ResourceInts.sig e_impl_ResourceInts.F :=
  den_is (E := v_impl_ResourceInts) ⟨tab_ti, tab_eq⟩ (fns_nil _) mixed Try.func113 (by kernel_rfl) (by kernel_rfl) (fun x => by kernel_rfl)

def s_impl_InRange : Sig := { params := [.val false y3, .val false y3, .val false y3], res := [.val false y4] }
noncomputable def e_impl_InRange : Entry := ⟨s_impl_InRange, fun a => D.impl_InRange a.1 a.2.1 a.2.2⟩
noncomputable def v_impl_InRange : Env := { ti := look tab, Γ := fns [], loop := fun _ => none, cut := fun _ => none, deep := fun _ => false }
theorem c_impl_InRange : Contract Try.prog 95 e_impl_InRange.sig e_impl_InRange.F :=
  den_is (E := v_impl_InRange) ⟨tab_ti, tab_eq⟩ (fns_nil _) mixed Try.func95 (by kernel_rfl) (by kernel_rfl) (fun x => by kernel_rfl)

def s_impl_Mod : Sig := { params := [.val false y3, .val false y3], res := [.val false y3] }
noncomputable def e_impl_Mod : Entry := ⟨s_impl_Mod, fun a => D.impl_Mod a.1 a.2⟩
noncomputable def v_impl_Mod : Env := { ti := look tab, Γ := fns [(95, [], e_impl_InRange)], loop := fun _ => none, cut := fun _ => none, deep := fun _ => false }
theorem c_impl_Mod : Contract Try.prog 111 e_impl_Mod.sig e_impl_Mod.F :=
  den_is (E := v_impl_Mod) ⟨tab_ti, tab_eq⟩ (fns_cons c_impl_InRange (fns_nil _)) mixed Try.func111 (by kernel_rfl) (by kernel_rfl) (fun x => by kernel_rfl)

def s_impl_Hash : Sig := { params := [.val false y30], res := [.val false y3] }
noncomputable def e_impl_Hash : Entry := ⟨s_impl_Hash, fun a => D.impl_Hash a⟩
noncomputable def v_impl_Hash : Env := { ti := look tab, Γ := fns [(111, [], e_impl_Mod)], loop := fun b => match b with | 0 => some [.slot 3 (.int .i64), .slot 8 (.int .i64)] | _ => none, cut := fun _ => none, deep := fun _ => false }
theorem c_impl_Hash : Contract Try.prog 96 e_impl_Hash.sig e_impl_Hash.F :=
  den_is (E := v_impl_Hash) ⟨tab_ti, tab_eq⟩ (fns_cons c_impl_Mod (fns_nil _)) mixed Try.func96 (by kernel_rfl) (by kernel_rfl) (fun x => by kernel_rfl)

def s_impl_DigestOf : Sig := { params := [.val true y50], res := [.val false y3] }
noncomputable def e_impl_DigestOf : Entry := ⟨s_impl_DigestOf, fun a => D.impl_DigestOf a⟩
noncomputable def v_impl_DigestOf : Env := { ti := look tab, Γ := fns [(113, [], e_impl_ResourceInts), (96, [], e_impl_Hash)], loop := fun _ => none, cut := fun _ => none, deep := fun _ => false }
theorem c_impl_DigestOf : Contract Try.prog 103 e_impl_DigestOf.sig e_impl_DigestOf.F :=
  den_is (E := v_impl_DigestOf) ⟨tab_ti, tab_eq⟩ (fns_cons c_impl_ResourceInts (fns_cons c_impl_Hash (fns_nil _))) mixed Try.func103 (by kernel_rfl) (by kernel_rfl) (fun x => by kernel_rfl)

def s_impl_NonceFor : Sig := { params := [.val false y3, .val false y3, .val false y3], res := [.val false y3] }
noncomputable def e_impl_NonceFor : Entry := ⟨s_impl_NonceFor, fun a => D.impl_NonceFor a.1 a.2.1 a.2.2⟩
noncomputable def v_impl_NonceFor : Env := { ti := look tab, Γ := fns [(96, [], e_impl_Hash), (111, [], e_impl_Mod)], loop := fun _ => none, cut := fun _ => none, deep := fun _ => false }
theorem c_impl_NonceFor : Contract Try.prog 102 e_impl_NonceFor.sig e_impl_NonceFor.F :=
  den_is (E := v_impl_NonceFor) ⟨tab_ti, tab_eq⟩ (fns_cons c_impl_Hash (fns_cons c_impl_Mod (fns_nil _))) mixed Try.func102 (by kernel_rfl) (by kernel_rfl) (fun x => by kernel_rfl)

def s_impl_IsValidKey : Sig := { params := [.val false y3], res := [.val false y4] }
noncomputable def e_impl_IsValidKey : Entry := ⟨s_impl_IsValidKey, fun a => D.impl_IsValidKey a⟩
noncomputable def v_impl_IsValidKey : Env := { ti := look tab, Γ := fns [(95, [], e_impl_InRange)], loop := fun _ => none, cut := fun _ => none, deep := fun _ => false }
theorem c_impl_IsValidKey : Contract Try.prog 106 e_impl_IsValidKey.sig e_impl_IsValidKey.F :=
  den_is (E := v_impl_IsValidKey) ⟨tab_ti, tab_eq⟩ (fns_cons c_impl_InRange (fns_nil _)) mixed Try.func106 (by kernel_rfl) (by kernel_rfl) (fun x => by kernel_rfl)

def s_impl_KeyedHash : Sig := { params := [.val false y3, .val false y30], res := [.val false y3] }
noncomputable def e_impl_KeyedHash : Entry := ⟨s_impl_KeyedHash, fun a => D.impl_KeyedHash a.1 a.2⟩
noncomputable def v_impl_KeyedHash : Env := { ti := look tab, Γ := fns [(96, [], e_impl_Hash)], loop := fun _ => none, cut := fun _ => none, deep := fun _ => false }
theorem c_impl_KeyedHash : Contract Try.prog 112 e_impl_KeyedHash.sig e_impl_KeyedHash.F :=
  den_is (E := v_impl_KeyedHash) ⟨tab_ti, tab_eq⟩ (fns_cons c_impl_Hash (fns_nil _)) mixed Try.func112 (by kernel_rfl) (by kernel_rfl) (fun x => by kernel_rfl)

def s_impl_AnswerWith : Sig := { params := [.val true y50, .val false y3], res := [.val false y3] }
noncomputable def e_impl_AnswerWith : Entry := ⟨s_impl_AnswerWith, fun a => D.impl_AnswerWith a.1 a.2⟩
noncomputable def v_impl_AnswerWith : Env := { ti := look tab, Γ := fns [(106, [], e_impl_IsValidKey), (113, [], e_impl_ResourceInts), (112, [], e_impl_KeyedHash)], loop := fun _ => none, cut := fun _ => none, deep := fun _ => false }
theorem c_impl_AnswerWith : Contract Try.prog 101 e_impl_AnswerWith.sig e_impl_AnswerWith.F :=
  den_is (E := v_impl_AnswerWith) ⟨tab_ti, tab_eq⟩ (fns_cons c_impl_IsValidKey (fns_cons c_impl_ResourceInts (fns_cons c_impl_KeyedHash (fns_nil _)))) mixed Try.func101 (by kernel_rfl) (by kernel_rfl) (fun x => by kernel_rfl)

def s_impl_rightAnswer : Sig := { params := [.val true y50, .val false y3, .val false y3], res := [.val false y3] }
noncomputable def e_impl_rightAnswer : Entry := ⟨s_impl_rightAnswer, fun a => D.impl_rightAnswer a.1 a.2.1 a.2.2⟩
noncomputable def v_impl_rightAnswer : Env := { ti := look tab, Γ := fns [(103, [], e_impl_DigestOf), (102, [], e_impl_NonceFor), (101, [], e_impl_AnswerWith)], loop := fun _ => none, cut := fun _ => none, deep := fun _ => false }
theorem c_impl_rightAnswer : Contract Try.prog 77 e_impl_rightAnswer.sig e_impl_rightAnswer.F :=
  den_is (E := v_impl_rightAnswer) ⟨tab_ti, tab_eq⟩ (fns_cons c_impl_DigestOf (fns_cons c_impl_NonceFor (fns_cons c_impl_AnswerWith (fns_nil _)))) mixed Try.func77 (by kernel_rfl) (by kernel_rfl) (fun x => by kernel_rfl)

def s_impl_CheckAnswer : Sig := { params := [.val true y50, .val false y3, .val false y3, .val false y3], res := [.val false y4] }
noncomputable def e_impl_CheckAnswer : Entry := ⟨s_impl_CheckAnswer, fun a => D.impl_CheckAnswer a.1 a.2.1 a.2.2.1 a.2.2.2⟩
noncomputable def v_impl_CheckAnswer : Env := { ti := look tab, Γ := fns [(77, [], e_impl_rightAnswer)], loop := fun _ => none, cut := fun _ => none, deep := fun _ => false }
theorem c_impl_CheckAnswer : Contract Try.prog 33 e_impl_CheckAnswer.sig e_impl_CheckAnswer.F :=
  den_is (E := v_impl_CheckAnswer) ⟨tab_ti, tab_eq⟩ (fns_cons c_impl_rightAnswer (fns_nil _)) mixed Try.func33 (by kernel_rfl) (by kernel_rfl) (fun x => by kernel_rfl)

def s_impl_ServesOther : Sig := { params := [.val true y50, .val false y3, .val false y3, .val false y3], res := [.val false y4] }
noncomputable def e_impl_ServesOther : Entry := ⟨s_impl_ServesOther, fun a => D.impl_ServesOther a.1 a.2.1 a.2.2.1 a.2.2.2⟩
noncomputable def v_impl_ServesOther : Env := { ti := look tab, Γ := fns [(77, [], e_impl_rightAnswer), (33, [], e_impl_CheckAnswer)], loop := fun _ => none, cut := fun _ => none, deep := fun _ => false }
theorem c_impl_ServesOther : Contract Try.prog 50 e_impl_ServesOther.sig e_impl_ServesOther.F :=
  den_is (E := v_impl_ServesOther) ⟨tab_ti, tab_eq⟩ (fns_cons c_impl_rightAnswer (fns_cons c_impl_CheckAnswer (fns_nil _))) mixed Try.func50 (by kernel_rfl) (by kernel_rfl) (fun x => by kernel_rfl)

def s_laws_eqIntS : Sig := { params := [.val false y30, .val false y30], res := [.val false y4] }
noncomputable def e_laws_eqIntS : Entry := ⟨s_laws_eqIntS, fun a => D.laws_eqIntS a.1 a.2⟩
noncomputable def v_laws_eqIntS : Env := { ti := look tab, Γ := fns [], loop := fun b => match b with | 0 => some [.slot 5 (.int .i64)] | _ => none, cut := fun _ => none, deep := fun _ => false }
theorem c_laws_eqIntS : Contract Try.prog 24 e_laws_eqIntS.sig e_laws_eqIntS.F :=
  den_is (E := v_laws_eqIntS) ⟨tab_ti, tab_eq⟩ (fns_nil _) mixed Try.func24 (by kernel_rfl) (by kernel_rfl) (fun x => by kernel_rfl)

def s_laws_eqAddress : Sig := { params := [.val true y48, .val true y48], res := [.val false y4] }
noncomputable def e_laws_eqAddress : Entry := ⟨s_laws_eqAddress, fun a => D.laws_eqAddress a.1 a.2⟩
noncomputable def v_laws_eqAddress : Env := { ti := look tab, Γ := fns [], loop := fun _ => none, cut := fun _ => none, deep := fun _ => false }
theorem c_laws_eqAddress : Contract Try.prog 78 e_laws_eqAddress.sig e_laws_eqAddress.F :=
  den_is (E := v_laws_eqAddress) ⟨tab_ti, tab_eq⟩ (fns_nil _) mixed Try.func78 (by kernel_rfl) (by kernel_rfl) (fun x => by kernel_rfl)

def s_laws_eqResource : Sig := { params := [.val true y50, .val true y50], res := [.val false y4] }
noncomputable def e_laws_eqResource : Entry := ⟨s_laws_eqResource, fun a => D.laws_eqResource a.1 a.2⟩
noncomputable def v_laws_eqResource : Env := { ti := look tab, Γ := fns [(24, [], e_laws_eqIntS), (78, [], e_laws_eqAddress)], loop := fun _ => none, cut := fun _ => none, deep := fun _ => false }
theorem c_laws_eqResource : Contract Try.prog 34 e_laws_eqResource.sig e_laws_eqResource.F :=
  den_is (E := v_laws_eqResource) ⟨tab_ti, tab_eq⟩ (fns_cons c_laws_eqIntS (fns_cons c_laws_eqAddress (fns_nil _))) mixed Try.func34 (by kernel_rfl) (by kernel_rfl) (fun x => by kernel_rfl)

def s_laws_FnExactServesOther : Sig := { params := [.val true y45, .val false y3, .val false y3, .val false y3], res := [.val false y4] }
noncomputable def e_laws_FnExactServesOther : Entry := ⟨s_laws_FnExactServesOther, fun a => D.laws_FnExactServesOther a.1 a.2.1 a.2.2.1 a.2.2.2⟩
noncomputable def v_laws_FnExactServesOther : Env := { ti := look tab, Γ := fns [(30, [], e_laws_szResource), (32, [], e_laws_toResource), (49, [], e_spec_ServesOther), (50, [], e_impl_ServesOther), (34, [], e_laws_eqResource)], loop := fun _ => none, cut := fun _ => none, deep := fun _ => false }
theorem c_laws_FnExactServesOther : Contract Try.prog 9 e_laws_FnExactServesOther.sig e_laws_FnExactServesOther.F :=
  den_is (E := v_laws_FnExactServesOther) ⟨tab_ti, tab_eq⟩ (fns_cons c_laws_szResource (fns_cons c_laws_toResource (fns_cons c_spec_ServesOther (fns_cons c_impl_ServesOther (fns_cons c_laws_eqResource (fns_nil _)))))) mixed Try.func9 (by kernel_rfl) (by kernel_rfl) (fun x => by kernel_rfl)

theorem law_true (a : Tup (s_laws_FnExactServesOther.params.map PTy.den)) (hok : argsOk Try.prog s_laws_FnExactServesOther.params a) : D.laws_FnExactServesOther a.1 a.2.1 a.2.2.1 a.2.2.2 = some true := D.FnExactServesOther_true a.1 a.2.1 a.2.2.1 a.2.2.2 (Ty.ok_bd (P := Try.prog) (t := y45) (by kernel_rfl) hok.1) (Ty.ok_bd (P := Try.prog) (t := y3) (by kernel_rfl) hok.2.1) (Ty.ok_bd (P := Try.prog) (t := y3) (by kernel_rfl) hok.2.2.1) (Ty.ok_bd (P := Try.prog) (t := y3) (by kernel_rfl) hok.2.2.2.1)
theorem lifted (os : Os) (started : os.Started) (H : Type) (enc : TypeId × Value → H) :
    ReturnsInHanded {} Try.checked os 9 .any (Rows.fnExactServesOtherSpec.pre6 enc Try.prog Try.f9 Rows.fnExactServesOtherRow.domain false) (Rows.fnExactServesOtherSpec.post enc Try.prog Try.f9 false true false false) := by
  refine returnsInHanded_of_change_sized (C := Try.checked) (by kernel_rfl) started (by kernel_rfl) Try.func9
    (ChangeSpec.witness6 (enc := enc) (C := Try.checked) false ⟨#[], #[.agg #[.int .i64 0, .slice none 0 0, .int .i64 0, .int .i64 0, .int .i64 0], .int .i64 0, .int .i64 0, .int .i64 0], []⟩ 8 (by kernel_rfl) (by kernel_rfl) (by kernel_rfl) (by kernel_rfl)) ?_
  intro W base args ds gs before hval hW hcnd hsz _
  exact law_row (C := Try.checked) rfl c_laws_FnExactServesOther (N := 8) (by kernel_rfl) (tb := 4) (by kernel_rfl) (by kernel_rfl) (by kernel_rfl) (by kernel_rfl) rfl
    (fun ds h => by
      have h : ds.length = 4 := h
      match ds, h with
      | [d0, d1, d2, d3], _ => rfl)
    bulky_sizeOf (small := fun _ => True) (fun a ds hok _ _ => ⟨_, law_true a hok, rfl⟩) hval hW hsz trivial

theorem over : Rows.fnExactServesOtherRow.holds Try.pinned (OpenSpec.ofChange Rows.fnExactServesOtherSpec) :=
  OpenClaim.holds_of_wide 9 Try.f9 rfl rfl rfl rfl rfl rfl rfl ⟨rfl, rfl, rfl, rfl, rfl⟩ rfl rfl rfl rfl rfl (by kernel_rfl) Try.func9 (by kernel_rfl)
    (of_decide_eq_true (by kernel_rfl)) (by unfold Func.isWrapper; first | (rw [if_pos (by decide +kernel)]; kernel_rfl) | (rw [if_neg (by decide +kernel)]; exact ⟨rfl, rfl⟩))
    (fun os started H enc _ => lifted os started H enc)
end Go.Proofs.Ytkcdbncblmbekaa.SxFnExactServesOther
namespace Go.Proofs.Ytkcdbncblmbekaa
theorem fnExactServesOther_holds : Rows.FnExactServesOtherSaid := SxFnExactServesOther.over
end Go.Proofs.Ytkcdbncblmbekaa
