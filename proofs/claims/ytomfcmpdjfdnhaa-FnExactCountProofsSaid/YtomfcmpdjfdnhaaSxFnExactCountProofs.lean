/- FnExactCountProofs returns true for every input, and each input reads as it did. No condition. -/
import Derived.Test.YtomfcmpdjfdnhaaRows
import Derived.Test.YtomfcmpdjfdnhaaPuFnExactCountProofs
import Derived.WalkKit
import Derived.ProofKit
import Derived.ShutString
import Derived.SizedLaws
set_option linter.unusedVariables false
set_option maxRecDepth 100000
set_option maxHeartbeats 4000000
namespace Go.Proofs.Ytomfcmpdjfdnhaa.SxFnExactCountProofs
open Go Go.Sh Go.RowKit
def y3 : Ty := .int .i64
def y4 : Ty := .bool
def y22 : Ty := .slice 3 y3
def y24 : Ty := .pair y3 (.pair y3 y3)
def y26 : Ty := .pair y3 (.pair y22 y24)
def y29 : Ty := .pair y3 (.pair y3 y3)
def y31 : Ty := .pair y3 (.pair y22 y29)
def tab : List (TypeId × TI) := [(3, { size := 1, bytes := 8, agg := false, ty := some y3 }),
  (4, { size := 1, bytes := 1, agg := false, ty := some y4 }),
  (22, { size := 1, bytes := 24, agg := false, ty := some y22, elem := some 3 }),
  (24, { size := 3, bytes := 24, agg := true, ty := some y24, fields := [(0, 3), (1, 3), (2, 3)] }),
  (26, { size := 5, bytes := 56, agg := true, ty := some y26, fields := [(0, 3), (1, 22), (2, 24)] }),
  (29, { size := 3, bytes := 24, agg := true, ty := some y29, fields := [(0, 3), (1, 3), (2, 3)], eq := true }),
  (31, { size := 5, bytes := 56, agg := true, ty := some y31, fields := [(0, 3), (1, 22), (2, 29)] })]
def look : List (TypeId × TI) → TypeId → Option TI
  | [], _ => none
  | (k, i) :: r, t => if Nat.beq t k = true then some i else look r t
theorem look_ok {P : Program} : ∀ {l : List (TypeId × TI)}, (l.all fun p => tiOk P p.1 p.2) = true → ∀ t i, look l t = some i → tiOk P t i = true
  | [], _, t, i, h => by simp [look] at h
  | (k, j) :: r, h0, t, i, h => by
    simp only [List.all_cons, Bool.and_eq_true] at h0
    simp only [look] at h
    split at h
    · rename_i hk
      simp only [Option.some.injEq] at h
      have := Nat.eq_of_beq_eq_true hk
      subst this; subst h; exact h0.1
    · exact look_ok h0.2 t i h
theorem look_eq {P : Program} : ∀ {l : List (TypeId × TI)}, (l.all fun p => !p.2.eq || eqTop P p.1 p.2.ty) = true → ∀ t i, look l t = some i → i.eq = true → ∀ ty, i.ty = some ty → EqLaw P t ty.zero
  | [], _, t, i, h => by simp [look] at h
  | (k, j) :: r, h0, t, i, h => by
    simp only [List.all_cons, Bool.and_eq_true, Bool.or_eq_true, Bool.not_eq_true'] at h0
    simp only [look] at h
    split at h
    · rename_i hk
      simp only [Option.some.injEq] at h
      have := Nat.eq_of_beq_eq_true hk
      subst this; subst h
      intro he
      exact eqLaw_of (h0.1.resolve_left (by simp [he]))
    · exact look_eq h0.2 t i h
def same : List Nat → List Nat → Bool
  | [], [] => true
  | a :: x, b :: y => Nat.beq a b && same x y
  | _, _ => false
theorem same_eq : ∀ {x y : List Nat}, same x y = true → x = y
  | [], [], _ => rfl
  | a :: x, b :: y, h => by
    simp only [same, Bool.and_eq_true] at h
    rw [Nat.eq_of_beq_eq_true h.1, same_eq h.2]
  | [], _ :: _, h => by simp [same] at h
  | _ :: _, [], h => by simp [same] at h
def fns : List (FuncId × List FuncId × Entry) → FuncId → List FuncId → Option Entry
  | [], _, _ => none
  | (k, c, e) :: r, f, fs => if (Nat.beq f k && same fs c) = true then some e else fns r f fs
theorem fns_nil (P : Program) : ∀ f fs en, fns [] f fs = some en → Contract P f en.sig en.F := fun f fs en h => by simp [fns] at h
theorem fns_cons {P : Program} {k : FuncId} {c : List FuncId} {e : Entry} {r : List (FuncId × List FuncId × Entry)} (hk : Contract P k e.sig e.F) (hr : ∀ f fs en, fns r f fs = some en → Contract P f en.sig en.F) : ∀ f fs en, fns ((k, c, e) :: r) f fs = some en → Contract P f en.sig en.F := fun f fs en h => by
  simp only [fns] at h
  split at h
  · rename_i hf
    simp only [Bool.and_eq_true] at hf
    simp only [Option.some.injEq] at h
    have := Nat.eq_of_beq_eq_true hf.1
    subst this; subst h; exact hk
  · exact hr f fs en h

theorem tab_ti : ∀ t i, look tab t = some i → tiOk Try.prog t i = true := look_ok (by kernel_rfl)
theorem tab_eq : ∀ t i, look tab t = some i → i.eq = true → ∀ ty, i.ty = some ty → EqLaw Try.prog t ty.zero := look_eq (by kernel_rfl)
theorem mixed : Try.prog.follows .mixedOrders = true := by kernel_rfl
def s_laws_szIntS : Sig := { params := [.val false y22, .val false y3], res := [.val false y3] }
noncomputable def e_laws_szIntS : Entry := ⟨s_laws_szIntS, fun a => D.laws_szIntS a.1 a.2⟩
noncomputable def v_laws_szIntS : Env := { ti := look tab, Γ := fns [], loop := fun _ => none, cut := fun _ => none, deep := fun _ => false }
theorem c_laws_szIntS : Contract Try.prog 81 e_laws_szIntS.sig e_laws_szIntS.F :=
  den_is (E := v_laws_szIntS) ⟨tab_ti, tab_eq⟩ (fns_nil _) mixed Try.func81 (by kernel_rfl) (by kernel_rfl) (fun x => by kernel_rfl)

def s_laws_szResource : Sig := { params := [.val true y26, .val false y3], res := [.val false y3] }
noncomputable def e_laws_szResource : Entry := ⟨s_laws_szResource, fun a => D.laws_szResource a.1 a.2⟩
noncomputable def v_laws_szResource : Env := { ti := look tab, Γ := fns [(81, [], e_laws_szIntS)], loop := fun _ => none, cut := fun _ => none, deep := fun _ => false }
theorem c_laws_szResource : Contract Try.prog 14 e_laws_szResource.sig e_laws_szResource.F :=
  den_is (E := v_laws_szResource) ⟨tab_ti, tab_eq⟩ (fns_cons c_laws_szIntS (fns_nil _)) mixed Try.func14 (by kernel_rfl) (by kernel_rfl) (fun x => by kernel_rfl)

def s_laws_toIntS : Sig := { params := [.val false y22], res := [.row 3 y3 false] }
noncomputable def e_laws_toIntS : Entry := ⟨s_laws_toIntS, fun a => D.laws_toIntS a⟩
noncomputable def v_laws_toIntS : Env := { ti := look tab, Γ := fns [], loop := fun b => match b with | 0 => some [.slot 4 (.int .i64), .vec 3 3 y3 false] | _ => none, cut := fun _ => none, deep := fun _ => false }
theorem c_laws_toIntS : Contract Try.prog 17 e_laws_toIntS.sig e_laws_toIntS.F :=
  den_is (E := v_laws_toIntS) ⟨tab_ti, tab_eq⟩ (fns_nil _) mixed Try.func17 (by kernel_rfl) (by kernel_rfl) (fun x => by kernel_rfl)

def s_laws_toAddress : Sig := { params := [.val true y24], res := [.val true y29] }
noncomputable def e_laws_toAddress : Entry := ⟨s_laws_toAddress, fun a => D.laws_toAddress a⟩
noncomputable def v_laws_toAddress : Env := { ti := look tab, Γ := fns [], loop := fun _ => none, cut := fun _ => none, deep := fun _ => false }
theorem c_laws_toAddress : Contract Try.prog 83 e_laws_toAddress.sig e_laws_toAddress.F :=
  den_is (E := v_laws_toAddress) ⟨tab_ti, tab_eq⟩ (fns_nil _) mixed Try.func83 (by kernel_rfl) (by kernel_rfl) (fun x => by kernel_rfl)

def s_laws_toResource : Sig := { params := [.val true y26], res := [.val true y31] }
noncomputable def e_laws_toResource : Entry := ⟨s_laws_toResource, fun a => D.laws_toResource a⟩
noncomputable def v_laws_toResource : Env := { ti := look tab, Γ := fns [(17, [], e_laws_toIntS), (83, [], e_laws_toAddress)], loop := fun _ => none, cut := fun _ => none, deep := fun _ => false }
theorem c_laws_toResource : Contract Try.prog 16 e_laws_toResource.sig e_laws_toResource.F :=
  den_is (E := v_laws_toResource) ⟨tab_ti, tab_eq⟩ (fns_cons c_laws_toIntS (fns_cons c_laws_toAddress (fns_nil _))) mixed Try.func16 (by kernel_rfl) (by kernel_rfl) (fun x => by kernel_rfl)

def s_spec_ResourceInts : Sig := { params := [.val true y31], res := [.row 3 y3 false] }
noncomputable def e_spec_ResourceInts : Entry := ⟨s_spec_ResourceInts, fun a => D.spec_ResourceInts a⟩
noncomputable def v_spec_ResourceInts : Env := { ti := look tab, Γ := fns [], loop := fun _ => none, cut := fun _ => none, deep := fun _ => false }
theorem c_spec_ResourceInts : Contract Try.prog 151 e_spec_ResourceInts.sig e_spec_ResourceInts.F :=
  den_is (E := v_spec_ResourceInts) ⟨tab_ti, tab_eq⟩ (fns_nil _) mixed Try.func151 (by kernel_rfl) (by kernel_rfl) (fun x => by kernel_rfl)

def s_spec_l1In : Sig := { params := [.val false y3, .val false y3, .val false y3], res := [.val false y4] }
noncomputable def e_spec_l1In : Entry := ⟨s_spec_l1In, fun a => D.spec_l1In a.1 a.2.1 a.2.2⟩
noncomputable def v_spec_l1In : Env := { ti := look tab, Γ := fns [], loop := fun _ => none, cut := fun _ => none, deep := fun _ => false }
theorem c_spec_l1In : Contract Try.prog 137 e_spec_l1In.sig e_spec_l1In.F :=
  den_is (E := v_spec_l1In) ⟨tab_ti, tab_eq⟩ (fns_nil _) mixed Try.func137 (by kernel_rfl) (by kernel_rfl) (fun x => by kernel_rfl)

def s_spec_Mod : Sig := { params := [.val false y3, .val false y3], res := [.val false y3] }
noncomputable def e_spec_Mod : Entry := ⟨s_spec_Mod, fun a => D.spec_Mod a.1 a.2⟩
noncomputable def v_spec_Mod : Env := { ti := look tab, Γ := fns [(137, [], e_spec_l1In)], loop := fun _ => none, cut := fun _ => none, deep := fun _ => false }
theorem c_spec_Mod : Contract Try.prog 152 e_spec_Mod.sig e_spec_Mod.F :=
  den_is (E := v_spec_Mod) ⟨tab_ti, tab_eq⟩ (fns_cons c_spec_l1In (fns_nil _)) mixed Try.func152 (by kernel_rfl) (by kernel_rfl) (fun x => by kernel_rfl)

def s_spec_Hash : Sig := { params := [.val false y22], res := [.val false y3] }
noncomputable def e_spec_Hash : Entry := ⟨s_spec_Hash, fun a => D.spec_Hash a⟩
noncomputable def v_spec_Hash : Env := { ti := look tab, Γ := fns [(152, [], e_spec_Mod)], loop := fun b => match b with | 0 => some [.slot 3 (.int .i64), .slot 4 (.int .i64)] | _ => none, cut := fun _ => none, deep := fun _ => false }
theorem c_spec_Hash : Contract Try.prog 153 e_spec_Hash.sig e_spec_Hash.F :=
  den_is (E := v_spec_Hash) ⟨tab_ti, tab_eq⟩ (fns_cons c_spec_Mod (fns_nil _)) mixed Try.func153 (by kernel_rfl) (by kernel_rfl) (fun x => by kernel_rfl)

def s_spec_DigestOf : Sig := { params := [.val true y31], res := [.val false y3] }
noncomputable def e_spec_DigestOf : Entry := ⟨s_spec_DigestOf, fun a => D.spec_DigestOf a⟩
noncomputable def v_spec_DigestOf : Env := { ti := look tab, Γ := fns [(151, [], e_spec_ResourceInts), (153, [], e_spec_Hash)], loop := fun _ => none, cut := fun _ => none, deep := fun _ => false }
theorem c_spec_DigestOf : Contract Try.prog 94 e_spec_DigestOf.sig e_spec_DigestOf.F :=
  den_is (E := v_spec_DigestOf) ⟨tab_ti, tab_eq⟩ (fns_cons c_spec_ResourceInts (fns_cons c_spec_Hash (fns_nil _))) mixed Try.func94 (by kernel_rfl) (by kernel_rfl) (fun x => by kernel_rfl)

def s_spec_NonceFor : Sig := { params := [.val false y3, .val false y3, .val false y3], res := [.val false y3] }
noncomputable def e_spec_NonceFor : Entry := ⟨s_spec_NonceFor, fun a => D.spec_NonceFor a.1 a.2.1 a.2.2⟩
noncomputable def v_spec_NonceFor : Env := { ti := look tab, Γ := fns [(153, [], e_spec_Hash), (152, [], e_spec_Mod)], loop := fun _ => none, cut := fun _ => none, deep := fun _ => false }
theorem c_spec_NonceFor : Contract Try.prog 93 e_spec_NonceFor.sig e_spec_NonceFor.F :=
  den_is (E := v_spec_NonceFor) ⟨tab_ti, tab_eq⟩ (fns_cons c_spec_Hash (fns_cons c_spec_Mod (fns_nil _))) mixed Try.func93 (by kernel_rfl) (by kernel_rfl) (fun x => by kernel_rfl)

def s_spec_IsValidKey : Sig := { params := [.val false y3], res := [.val false y4] }
noncomputable def e_spec_IsValidKey : Entry := ⟨s_spec_IsValidKey, fun a => D.spec_IsValidKey a⟩
noncomputable def v_spec_IsValidKey : Env := { ti := look tab, Γ := fns [(137, [], e_spec_l1In)], loop := fun _ => none, cut := fun _ => none, deep := fun _ => false }
theorem c_spec_IsValidKey : Contract Try.prog 149 e_spec_IsValidKey.sig e_spec_IsValidKey.F :=
  den_is (E := v_spec_IsValidKey) ⟨tab_ti, tab_eq⟩ (fns_cons c_spec_l1In (fns_nil _)) mixed Try.func149 (by kernel_rfl) (by kernel_rfl) (fun x => by kernel_rfl)

def s_spec_KeyedHash : Sig := { params := [.val false y3, .val false y22], res := [.val false y3] }
noncomputable def e_spec_KeyedHash : Entry := ⟨s_spec_KeyedHash, fun a => D.spec_KeyedHash a.1 a.2⟩
noncomputable def v_spec_KeyedHash : Env := { ti := look tab, Γ := fns [(153, [], e_spec_Hash)], loop := fun _ => none, cut := fun _ => none, deep := fun _ => false }
theorem c_spec_KeyedHash : Contract Try.prog 150 e_spec_KeyedHash.sig e_spec_KeyedHash.F :=
  den_is (E := v_spec_KeyedHash) ⟨tab_ti, tab_eq⟩ (fns_cons c_spec_Hash (fns_nil _)) mixed Try.func150 (by kernel_rfl) (by kernel_rfl) (fun x => by kernel_rfl)

def s_spec_AnswerWith : Sig := { params := [.val true y31, .val false y3], res := [.val false y3] }
noncomputable def e_spec_AnswerWith : Entry := ⟨s_spec_AnswerWith, fun a => D.spec_AnswerWith a.1 a.2⟩
noncomputable def v_spec_AnswerWith : Env := { ti := look tab, Γ := fns [(149, [], e_spec_IsValidKey), (151, [], e_spec_ResourceInts), (150, [], e_spec_KeyedHash)], loop := fun _ => none, cut := fun _ => none, deep := fun _ => false }
theorem c_spec_AnswerWith : Contract Try.prog 92 e_spec_AnswerWith.sig e_spec_AnswerWith.F :=
  den_is (E := v_spec_AnswerWith) ⟨tab_ti, tab_eq⟩ (fns_cons c_spec_IsValidKey (fns_cons c_spec_ResourceInts (fns_cons c_spec_KeyedHash (fns_nil _)))) mixed Try.func92 (by kernel_rfl) (by kernel_rfl) (fun x => by kernel_rfl)

def s_spec_CheckAnswer : Sig := { params := [.val true y31, .val false y3, .val false y3, .val false y3], res := [.val false y4] }
noncomputable def e_spec_CheckAnswer : Entry := ⟨s_spec_CheckAnswer, fun a => D.spec_CheckAnswer a.1 a.2.1 a.2.2.1 a.2.2.2⟩
noncomputable def v_spec_CheckAnswer : Env := { ti := look tab, Γ := fns [(94, [], e_spec_DigestOf), (93, [], e_spec_NonceFor), (92, [], e_spec_AnswerWith)], loop := fun _ => none, cut := fun _ => none, deep := fun _ => false }
theorem c_spec_CheckAnswer : Contract Try.prog 82 e_spec_CheckAnswer.sig e_spec_CheckAnswer.F :=
  den_is (E := v_spec_CheckAnswer) ⟨tab_ti, tab_eq⟩ (fns_cons c_spec_DigestOf (fns_cons c_spec_NonceFor (fns_cons c_spec_AnswerWith (fns_nil _)))) mixed Try.func82 (by kernel_rfl) (by kernel_rfl) (fun x => by kernel_rfl)

def s_spec_CountProofs : Sig := { params := [.val true y31, .val false y22, .val false y3], res := [.val false y3] }
noncomputable def e_spec_CountProofs : Entry := ⟨s_spec_CountProofs, fun a => D.spec_CountProofs a.1 a.2.1 a.2.2⟩
noncomputable def v_spec_CountProofs : Env := { ti := look tab, Γ := fns [(82, [], e_spec_CheckAnswer)], loop := fun b => match b with | 0 => some [.slot 7 (.int .i64), .slot 8 (.int .i64)] | _ => none, cut := fun _ => none, deep := fun _ => false }
theorem c_spec_CountProofs : Contract Try.prog 15 e_spec_CountProofs.sig e_spec_CountProofs.F :=
  den_is (E := v_spec_CountProofs) ⟨tab_ti, tab_eq⟩ (fns_cons c_spec_CheckAnswer (fns_nil _)) mixed Try.func15 (by kernel_rfl) (by kernel_rfl) (fun x => by kernel_rfl)

def s_impl_ResourceInts : Sig := { params := [.val true y31], res := [.row 3 y3 false] }
noncomputable def e_impl_ResourceInts : Entry := ⟨s_impl_ResourceInts, fun a => D.impl_ResourceInts a⟩
noncomputable def v_impl_ResourceInts : Env := { ti := look tab, Γ := fns [], loop := fun _ => none, cut := fun _ => none, deep := fun _ => false }
theorem c_impl_ResourceInts : Contract Try.prog 99 e_impl_ResourceInts.sig e_impl_ResourceInts.F :=
  den_is (E := v_impl_ResourceInts) ⟨tab_ti, tab_eq⟩ (fns_nil _) mixed Try.func99 (by kernel_rfl) (by kernel_rfl) (fun x => by kernel_rfl)

def s_impl_InRange : Sig := { params := [.val false y3, .val false y3, .val false y3], res := [.val false y4] }
noncomputable def e_impl_InRange : Entry := ⟨s_impl_InRange, fun a => D.impl_InRange a.1 a.2.1 a.2.2⟩
noncomputable def v_impl_InRange : Env := { ti := look tab, Γ := fns [], loop := fun _ => none, cut := fun _ => none, deep := fun _ => false }
theorem c_impl_InRange : Contract Try.prog 122 e_impl_InRange.sig e_impl_InRange.F :=
  den_is (E := v_impl_InRange) ⟨tab_ti, tab_eq⟩ (fns_nil _) mixed Try.func122 (by kernel_rfl) (by kernel_rfl) (fun x => by kernel_rfl)

def s_impl_Mod : Sig := { params := [.val false y3, .val false y3], res := [.val false y3] }
noncomputable def e_impl_Mod : Entry := ⟨s_impl_Mod, fun a => D.impl_Mod a.1 a.2⟩
noncomputable def v_impl_Mod : Env := { ti := look tab, Γ := fns [(122, [], e_impl_InRange)], loop := fun _ => none, cut := fun _ => none, deep := fun _ => false }
theorem c_impl_Mod : Contract Try.prog 97 e_impl_Mod.sig e_impl_Mod.F :=
  den_is (E := v_impl_Mod) ⟨tab_ti, tab_eq⟩ (fns_cons c_impl_InRange (fns_nil _)) mixed Try.func97 (by kernel_rfl) (by kernel_rfl) (fun x => by kernel_rfl)

def s_impl_Hash : Sig := { params := [.val false y22], res := [.val false y3] }
noncomputable def e_impl_Hash : Entry := ⟨s_impl_Hash, fun a => D.impl_Hash a⟩
noncomputable def v_impl_Hash : Env := { ti := look tab, Γ := fns [(97, [], e_impl_Mod)], loop := fun b => match b with | 0 => some [.slot 3 (.int .i64), .slot 8 (.int .i64)] | _ => none, cut := fun _ => none, deep := fun _ => false }
theorem c_impl_Hash : Contract Try.prog 98 e_impl_Hash.sig e_impl_Hash.F :=
  den_is (E := v_impl_Hash) ⟨tab_ti, tab_eq⟩ (fns_cons c_impl_Mod (fns_nil _)) mixed Try.func98 (by kernel_rfl) (by kernel_rfl) (fun x => by kernel_rfl)

def s_impl_DigestOf : Sig := { params := [.val true y31], res := [.val false y3] }
noncomputable def e_impl_DigestOf : Entry := ⟨s_impl_DigestOf, fun a => D.impl_DigestOf a⟩
noncomputable def v_impl_DigestOf : Env := { ti := look tab, Γ := fns [(99, [], e_impl_ResourceInts), (98, [], e_impl_Hash)], loop := fun _ => none, cut := fun _ => none, deep := fun _ => false }
theorem c_impl_DigestOf : Contract Try.prog 32 e_impl_DigestOf.sig e_impl_DigestOf.F :=
  den_is (E := v_impl_DigestOf) ⟨tab_ti, tab_eq⟩ (fns_cons c_impl_ResourceInts (fns_cons c_impl_Hash (fns_nil _))) mixed Try.func32 (by kernel_rfl) (by kernel_rfl) (fun x => by kernel_rfl)

def s_impl_NonceFor : Sig := { params := [.val false y3, .val false y3, .val false y3], res := [.val false y3] }
noncomputable def e_impl_NonceFor : Entry := ⟨s_impl_NonceFor, fun a => D.impl_NonceFor a.1 a.2.1 a.2.2⟩
noncomputable def v_impl_NonceFor : Env := { ti := look tab, Γ := fns [(98, [], e_impl_Hash), (97, [], e_impl_Mod)], loop := fun _ => none, cut := fun _ => none, deep := fun _ => false }
theorem c_impl_NonceFor : Contract Try.prog 31 e_impl_NonceFor.sig e_impl_NonceFor.F :=
  den_is (E := v_impl_NonceFor) ⟨tab_ti, tab_eq⟩ (fns_cons c_impl_Hash (fns_cons c_impl_Mod (fns_nil _))) mixed Try.func31 (by kernel_rfl) (by kernel_rfl) (fun x => by kernel_rfl)

def s_impl_IsValidKey : Sig := { params := [.val false y3], res := [.val false y4] }
noncomputable def e_impl_IsValidKey : Entry := ⟨s_impl_IsValidKey, fun a => D.impl_IsValidKey a⟩
noncomputable def v_impl_IsValidKey : Env := { ti := look tab, Γ := fns [(122, [], e_impl_InRange)], loop := fun _ => none, cut := fun _ => none, deep := fun _ => false }
theorem c_impl_IsValidKey : Contract Try.prog 100 e_impl_IsValidKey.sig e_impl_IsValidKey.F :=
  den_is (E := v_impl_IsValidKey) ⟨tab_ti, tab_eq⟩ (fns_cons c_impl_InRange (fns_nil _)) mixed Try.func100 (by kernel_rfl) (by kernel_rfl) (fun x => by kernel_rfl)

def s_impl_KeyedHash : Sig := { params := [.val false y3, .val false y22], res := [.val false y3] }
noncomputable def e_impl_KeyedHash : Entry := ⟨s_impl_KeyedHash, fun a => D.impl_KeyedHash a.1 a.2⟩
noncomputable def v_impl_KeyedHash : Env := { ti := look tab, Γ := fns [(98, [], e_impl_Hash)], loop := fun _ => none, cut := fun _ => none, deep := fun _ => false }
theorem c_impl_KeyedHash : Contract Try.prog 101 e_impl_KeyedHash.sig e_impl_KeyedHash.F :=
  den_is (E := v_impl_KeyedHash) ⟨tab_ti, tab_eq⟩ (fns_cons c_impl_Hash (fns_nil _)) mixed Try.func101 (by kernel_rfl) (by kernel_rfl) (fun x => by kernel_rfl)

def s_impl_AnswerWith : Sig := { params := [.val true y31, .val false y3], res := [.val false y3] }
noncomputable def e_impl_AnswerWith : Entry := ⟨s_impl_AnswerWith, fun a => D.impl_AnswerWith a.1 a.2⟩
noncomputable def v_impl_AnswerWith : Env := { ti := look tab, Γ := fns [(100, [], e_impl_IsValidKey), (99, [], e_impl_ResourceInts), (101, [], e_impl_KeyedHash)], loop := fun _ => none, cut := fun _ => none, deep := fun _ => false }
theorem c_impl_AnswerWith : Contract Try.prog 33 e_impl_AnswerWith.sig e_impl_AnswerWith.F :=
  den_is (E := v_impl_AnswerWith) ⟨tab_ti, tab_eq⟩ (fns_cons c_impl_IsValidKey (fns_cons c_impl_ResourceInts (fns_cons c_impl_KeyedHash (fns_nil _)))) mixed Try.func33 (by kernel_rfl) (by kernel_rfl) (fun x => by kernel_rfl)

def s_impl_rightAnswer : Sig := { params := [.val true y31, .val false y3, .val false y3], res := [.val false y3] }
noncomputable def e_impl_rightAnswer : Entry := ⟨s_impl_rightAnswer, fun a => D.impl_rightAnswer a.1 a.2.1 a.2.2⟩
noncomputable def v_impl_rightAnswer : Env := { ti := look tab, Γ := fns [(32, [], e_impl_DigestOf), (31, [], e_impl_NonceFor), (33, [], e_impl_AnswerWith)], loop := fun _ => none, cut := fun _ => none, deep := fun _ => false }
theorem c_impl_rightAnswer : Contract Try.prog 102 e_impl_rightAnswer.sig e_impl_rightAnswer.F :=
  den_is (E := v_impl_rightAnswer) ⟨tab_ti, tab_eq⟩ (fns_cons c_impl_DigestOf (fns_cons c_impl_NonceFor (fns_cons c_impl_AnswerWith (fns_nil _)))) mixed Try.func102 (by kernel_rfl) (by kernel_rfl) (fun x => by kernel_rfl)

def s_impl_CheckAnswer : Sig := { params := [.val true y31, .val false y3, .val false y3, .val false y3], res := [.val false y4] }
noncomputable def e_impl_CheckAnswer : Entry := ⟨s_impl_CheckAnswer, fun a => D.impl_CheckAnswer a.1 a.2.1 a.2.2.1 a.2.2.2⟩
noncomputable def v_impl_CheckAnswer : Env := { ti := look tab, Γ := fns [(102, [], e_impl_rightAnswer)], loop := fun _ => none, cut := fun _ => none, deep := fun _ => false }
theorem c_impl_CheckAnswer : Contract Try.prog 34 e_impl_CheckAnswer.sig e_impl_CheckAnswer.F :=
  den_is (E := v_impl_CheckAnswer) ⟨tab_ti, tab_eq⟩ (fns_cons c_impl_rightAnswer (fns_nil _)) mixed Try.func34 (by kernel_rfl) (by kernel_rfl) (fun x => by kernel_rfl)

def s_impl_CountProofs : Sig := { params := [.val true y31, .val false y22, .val false y3], res := [.val false y3] }
noncomputable def e_impl_CountProofs : Entry := ⟨s_impl_CountProofs, fun a => D.impl_CountProofs a.1 a.2.1 a.2.2⟩
noncomputable def v_impl_CountProofs : Env := { ti := look tab, Γ := fns [(34, [], e_impl_CheckAnswer)], loop := fun b => match b with | 0 => some [.slot 7 (.int .i64), .slot 12 (.int .i64)] | _ => none, cut := fun _ => none, deep := fun _ => false }
theorem c_impl_CountProofs : Contract Try.prog 18 e_impl_CountProofs.sig e_impl_CountProofs.F :=
  den_is (E := v_impl_CountProofs) ⟨tab_ti, tab_eq⟩ (fns_cons c_impl_CheckAnswer (fns_nil _)) mixed Try.func18 (by kernel_rfl) (by kernel_rfl) (fun x => by kernel_rfl)

def s_laws_eqIntS : Sig := { params := [.val false y22, .val false y22], res := [.val false y4] }
noncomputable def e_laws_eqIntS : Entry := ⟨s_laws_eqIntS, fun a => D.laws_eqIntS a.1 a.2⟩
noncomputable def v_laws_eqIntS : Env := { ti := look tab, Γ := fns [], loop := fun b => match b with | 0 => some [.slot 5 (.int .i64)] | _ => none, cut := fun _ => none, deep := fun _ => false }
theorem c_laws_eqIntS : Contract Try.prog 20 e_laws_eqIntS.sig e_laws_eqIntS.F :=
  den_is (E := v_laws_eqIntS) ⟨tab_ti, tab_eq⟩ (fns_nil _) mixed Try.func20 (by kernel_rfl) (by kernel_rfl) (fun x => by kernel_rfl)

def s_laws_eqAddress : Sig := { params := [.val true y29, .val true y29], res := [.val false y4] }
noncomputable def e_laws_eqAddress : Entry := ⟨s_laws_eqAddress, fun a => D.laws_eqAddress a.1 a.2⟩
noncomputable def v_laws_eqAddress : Env := { ti := look tab, Γ := fns [], loop := fun _ => none, cut := fun _ => none, deep := fun _ => false }
theorem c_laws_eqAddress : Contract Try.prog 84 e_laws_eqAddress.sig e_laws_eqAddress.F :=
  den_is (E := v_laws_eqAddress) ⟨tab_ti, tab_eq⟩ (fns_nil _) mixed Try.func84 (by kernel_rfl) (by kernel_rfl) (fun x => by kernel_rfl)

def s_laws_eqResource : Sig := { params := [.val true y31, .val true y31], res := [.val false y4] }
noncomputable def e_laws_eqResource : Entry := ⟨s_laws_eqResource, fun a => D.laws_eqResource a.1 a.2⟩
noncomputable def v_laws_eqResource : Env := { ti := look tab, Γ := fns [(20, [], e_laws_eqIntS), (84, [], e_laws_eqAddress)], loop := fun _ => none, cut := fun _ => none, deep := fun _ => false }
theorem c_laws_eqResource : Contract Try.prog 19 e_laws_eqResource.sig e_laws_eqResource.F :=
  den_is (E := v_laws_eqResource) ⟨tab_ti, tab_eq⟩ (fns_cons c_laws_eqIntS (fns_cons c_laws_eqAddress (fns_nil _))) mixed Try.func19 (by kernel_rfl) (by kernel_rfl) (fun x => by kernel_rfl)

def s_laws_FnExactCountProofs : Sig := { params := [.val true y26, .val false y22, .val false y3], res := [.val false y4] }
noncomputable def e_laws_FnExactCountProofs : Entry := ⟨s_laws_FnExactCountProofs, fun a => D.laws_FnExactCountProofs a.1 a.2.1 a.2.2⟩
noncomputable def v_laws_FnExactCountProofs : Env := { ti := look tab, Γ := fns [(14, [], e_laws_szResource), (16, [], e_laws_toResource), (17, [], e_laws_toIntS), (15, [], e_spec_CountProofs), (18, [], e_impl_CountProofs), (19, [], e_laws_eqResource), (20, [], e_laws_eqIntS)], loop := fun _ => none, cut := fun _ => none, deep := fun _ => false }
theorem c_laws_FnExactCountProofs : Contract Try.prog 3 e_laws_FnExactCountProofs.sig e_laws_FnExactCountProofs.F :=
  den_is (E := v_laws_FnExactCountProofs) ⟨tab_ti, tab_eq⟩ (fns_cons c_laws_szResource (fns_cons c_laws_toResource (fns_cons c_laws_toIntS (fns_cons c_spec_CountProofs (fns_cons c_impl_CountProofs (fns_cons c_laws_eqResource (fns_cons c_laws_eqIntS (fns_nil _)))))))) mixed Try.func3 (by kernel_rfl) (by kernel_rfl) (fun x => by kernel_rfl)

theorem law_true (a : Tup (s_laws_FnExactCountProofs.params.map PTy.den)) (hok : argsOk Try.prog s_laws_FnExactCountProofs.params a) : D.laws_FnExactCountProofs a.1 a.2.1 a.2.2 = some true := D.FnExactCountProofs_true a.1 a.2.1 a.2.2 (Ty.ok_bd (P := Try.prog) (t := y26) (by kernel_rfl) hok.1) (Ty.ok_bd (P := Try.prog) (t := y22) (by kernel_rfl) hok.2.1) (Ty.ok_bd (P := Try.prog) (t := y3) (by kernel_rfl) hok.2.2.1)
theorem lifted (os : Os) (started : os.Started) (H : Type) (enc : TypeId × Value → H) :
    ReturnsInHanded {} Try.checked os 3 .any (Rows.fnExactCountProofsSpec.pre6 enc Try.prog Try.f3 Rows.fnExactCountProofsRow.domain false) (Rows.fnExactCountProofsSpec.post enc Try.prog Try.f3 false true false false) := by
  refine returnsInHanded_of_change_sized (C := Try.checked) (by kernel_rfl) started (by kernel_rfl) Try.func3
    (ChangeSpec.witness6 (enc := enc) (C := Try.checked) false ⟨#[], #[.agg #[.int .i64 0, .slice none 0 0, .int .i64 0, .int .i64 0, .int .i64 0], .slice none 0 0, .int .i64 0], []⟩ 8 (by kernel_rfl) (by kernel_rfl) (by kernel_rfl) (by kernel_rfl)) ?_
  intro W base args ds gs before hval hW hcnd hsz _
  exact law_row (C := Try.checked) rfl c_laws_FnExactCountProofs (N := 8) (by kernel_rfl) (tb := 4) (by kernel_rfl) (by kernel_rfl) (by kernel_rfl) (by kernel_rfl) rfl
    (fun ds h => by
      have h : ds.length = 3 := h
      match ds, h with
      | [d0, d1, d2], _ => rfl)
    bulky_sizeOf (small := fun _ => True) (fun a ds hok _ _ => ⟨_, law_true a hok, rfl⟩) hval hW hsz trivial

theorem over : Rows.fnExactCountProofsRow.holds Try.pinned (OpenSpec.ofChange Rows.fnExactCountProofsSpec) :=
  OpenClaim.holds_of_wide 3 Try.f3 rfl rfl rfl rfl rfl rfl rfl ⟨rfl, rfl, rfl, rfl, rfl⟩ rfl rfl rfl rfl rfl (by kernel_rfl) Try.func3 (by kernel_rfl)
    (of_decide_eq_true (by kernel_rfl)) (by unfold Func.isWrapper; first | (rw [if_pos (by decide +kernel)]; kernel_rfl) | (rw [if_neg (by decide +kernel)]; exact ⟨rfl, rfl⟩))
    (fun os started H enc _ => lifted os started H enc)
end Go.Proofs.Ytomfcmpdjfdnhaa.SxFnExactCountProofs
namespace Go.Proofs.Ytomfcmpdjfdnhaa
theorem fnExactCountProofs_holds : Rows.FnExactCountProofsSaid := SxFnExactCountProofs.over
end Go.Proofs.Ytomfcmpdjfdnhaa
