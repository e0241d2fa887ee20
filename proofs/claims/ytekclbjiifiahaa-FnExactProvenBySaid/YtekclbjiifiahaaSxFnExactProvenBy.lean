/- FnExactProvenBy returns true for every input, and each input reads as it did. No condition. -/
import Derived.Test.YtekclbjiifiahaaRows
import Derived.Test.YtekclbjiifiahaaPuFnExactProvenBy
import Derived.Test.YtekclbjiifiahaaEx
import Derived.WalkKit
import Derived.ProofKit
import Derived.ShutString
import Derived.SizedLaws
set_option linter.unusedVariables false
set_option maxRecDepth 100000
set_option maxHeartbeats 4000000
namespace Go.Proofs.Ytekclbjiifiahaa.SxFnExactProvenBy
open Go Go.Sh Go.RowKit
instance laid0 : Laid := ⟨fun _ => True, fun _ => False, fun _ _ _ h => h.elim, fun _ _ _ _ => trivial⟩
def y3 : Ty := .int .i64
def y4 : Ty := .bool
def y22 : Ty := .slice 3 y3
def y56 : Ty := .pair y3 (.pair y3 (.pair y3 y3))
def y23 : Ty := .slice 56 y56
def y38 : Ty := .pair y3 (.pair y3 (.pair y3 y3))
def y27 : Ty := .slice 38 y38
def y77 : Ty := .int .u64
def y93 : Ty := .int .u32
def y95 : Ty := .int .u64
def tab : List (TypeId × TI) := [(3, { size := 1, bytes := 8, agg := false, ty := some y3 }),
  (4, { size := 1, bytes := 1, agg := false, ty := some y4 }),
  (22, { size := 1, bytes := 24, agg := false, ty := some y22, elem := some 3 }),
  (56, { size := 4, bytes := 32, agg := true, ty := some y56, fields := [(0, 3), (1, 3), (2, 3), (3, 3)] }),
  (23, { size := 1, bytes := 24, agg := false, ty := some y23, elem := some 56 }),
  (38, { size := 4, bytes := 32, agg := true, ty := some y38, fields := [(0, 3), (1, 3), (2, 3), (3, 3)], eq := true }),
  (27, { size := 1, bytes := 24, agg := false, ty := some y27, elem := some 38 }),
  (77, { size := 1, bytes := 8, agg := false, ty := some y77 }),
  (93, { size := 1, bytes := 4, agg := false, ty := some y93 }),
  (95, { size := 1, bytes := 8, agg := false, ty := some y95 })]
def look : List (TypeId × TI) → TypeId → Option TI
  | [], _ => none
  | (k, i) :: r, t => if Nat.beq t k = true then some i else look r t
theorem look_ok {P : Program} : ∀ {l : List (TypeId × TI)}, (l.all fun p => tiOk P p.1 p.2) = true → ∀ t i, look l t = some i → tiOk P t i = true
  | [], _, t, i, h => by simp [look] at h
  | (k, j) :: r, h0, t, i, h => by
    simp only [List.all_cons, Bool.and_eq_true] at h0
    simp only [look] at h
    split at h
    · rename_i hk
      simp only [Option.some.injEq] at h
      have := Nat.eq_of_beq_eq_true hk
      subst this; subst h; exact h0.1
    · exact look_ok h0.2 t i h
theorem look_eq {P : Program} : ∀ {l : List (TypeId × TI)}, (l.all fun p => !p.2.eq || eqTop P p.1 p.2.ty) = true → ∀ t i, look l t = some i → i.eq = true → ∀ ty, i.ty = some ty → EqLaw P t ty.zero
  | [], _, t, i, h => by simp [look] at h
  | (k, j) :: r, h0, t, i, h => by
    simp only [List.all_cons, Bool.and_eq_true, Bool.or_eq_true, Bool.not_eq_true'] at h0
    simp only [look] at h
    split at h
    · rename_i hk
      simp only [Option.some.injEq] at h
      have := Nat.eq_of_beq_eq_true hk
      subst this; subst h
      intro he
      exact eqLaw_of (h0.1.resolve_left (by simp [he]))
    · exact look_eq h0.2 t i h
def same : List Nat → List Nat → Bool
  | [], [] => true
  | a :: x, b :: y => Nat.beq a b && same x y
  | _, _ => false
theorem same_eq : ∀ {x y : List Nat}, same x y = true → x = y
  | [], [], _ => rfl
  | a :: x, b :: y, h => by
    simp only [same, Bool.and_eq_true] at h
    rw [Nat.eq_of_beq_eq_true h.1, same_eq h.2]
  | [], _ :: _, h => by simp [same] at h
  | _ :: _, [], h => by simp [same] at h
def fns : List (FuncId × List FuncId × Entry) → FuncId → List FuncId → Option Entry
  | [], _, _ => none
  | (k, c, e) :: r, f, fs => if (Nat.beq f k && same fs c) = true then some e else fns r f fs
theorem fns_nil (P : Program) : ∀ f fs en, fns [] f fs = some en → Contract P f en.sig en.F := fun f fs en h => by simp [fns] at h
theorem fns_cons {P : Program} {k : FuncId} {c : List FuncId} {e : Entry} {r : List (FuncId × List FuncId × Entry)} (hk : Contract P k e.sig e.F) (hr : ∀ f fs en, fns r f fs = some en → Contract P f en.sig en.F) : ∀ f fs en, fns ((k, c, e) :: r) f fs = some en → Contract P f en.sig en.F := fun f fs en h => by
  simp only [fns] at h
  split at h
  · rename_i hf
    simp only [Bool.and_eq_true] at hf
    simp only [Option.some.injEq] at h
    have := Nat.eq_of_beq_eq_true hf.1
    subst this; subst h; exact hk
  · exact hr f fs en h

theorem tab_ti : ∀ t i, look tab t = some i → tiOk Try.prog t i = true := look_ok (by kernel_rfl)
theorem tab_eq : ∀ t i, look tab t = some i → i.eq = true → ∀ ty, i.ty = some ty → EqLaw Try.prog t ty.zero := look_eq (by kernel_rfl)
theorem mixed : Try.prog.follows .mixedOrders = true := by kernel_rfl
def s_laws_szStatementS : Sig := { params := [.val false y23, .val false y3], res := [.val false y3] }
noncomputable def e_laws_szStatementS : Entry := ⟨s_laws_szStatementS, fun a => D.laws_szStatementS a.1 a.2⟩
noncomputable def v_laws_szStatementS : Env := { ti := look tab, Γ := fns [], loop := fun _ => none, cut := fun _ => none, deep := fun _ => false }
theorem c_laws_szStatementS : Contract Try.prog 9 e_laws_szStatementS.sig e_laws_szStatementS.F :=
  den_is (E := v_laws_szStatementS) ⟨tab_ti, tab_eq⟩ (fns_nil _) mixed Try.func9 (by kernel_rfl) (by kernel_rfl) (fun x => by kernel_rfl)

def s_laws_toIntS : Sig := { params := [.val false y22], res := [.row 3 y3 false] }
noncomputable def e_laws_toIntS : Entry := ⟨s_laws_toIntS, fun a => D.laws_toIntS a⟩
noncomputable def v_laws_toIntS : Env := { ti := look tab, Γ := fns [], loop := fun b => match b with | 0 => some [.slot 4 (.int .i64), .vec 3 3 y3 false] | _ => none, cut := fun _ => none, deep := fun _ => false }
theorem c_laws_toIntS : Contract Try.prog 11 e_laws_toIntS.sig e_laws_toIntS.F :=
  den_is (E := v_laws_toIntS) ⟨tab_ti, tab_eq⟩ (fns_nil _) mixed Try.func11 (by kernel_rfl) (by kernel_rfl) (fun x => by kernel_rfl)

def s_laws_toStatement : Sig := { params := [.val true y56], res := [.val true y38] }
noncomputable def e_laws_toStatement : Entry := ⟨s_laws_toStatement, fun a => D.laws_toStatement a⟩
noncomputable def v_laws_toStatement : Env := { ti := look tab, Γ := fns [], loop := fun _ => none, cut := fun _ => none, deep := fun _ => false }
theorem c_laws_toStatement : Contract Try.prog 37 e_laws_toStatement.sig e_laws_toStatement.F :=
  den_is (E := v_laws_toStatement) ⟨tab_ti, tab_eq⟩ (fns_nil _) mixed Try.func37 (by kernel_rfl) (by kernel_rfl) (fun x => by kernel_rfl)

def s_laws_toStatementS : Sig := { params := [.val false y23], res := [.row 38 y38 false] }
noncomputable def e_laws_toStatementS : Entry := ⟨s_laws_toStatementS, fun a => D.laws_toStatementS a⟩
noncomputable def v_laws_toStatementS : Env := { ti := look tab, Γ := fns [(37, [], e_laws_toStatement)], loop := fun b => match b with | 0 => some [.slot 4 (.int .i64), .vec 3 38 y38 false] | _ => none, cut := fun _ => none, deep := fun _ => false }
theorem c_laws_toStatementS : Contract Try.prog 12 e_laws_toStatementS.sig e_laws_toStatementS.F :=
  den_is (E := v_laws_toStatementS) ⟨tab_ti, tab_eq⟩ (fns_cons c_laws_toStatement (fns_nil _)) mixed Try.func12 (by kernel_rfl) (by kernel_rfl) (fun x => by kernel_rfl)

def s_spec_l1In : Sig := { params := [.val false y3, .val false y3, .val false y3], res := [.val false y4] }
noncomputable def e_spec_l1In : Entry := ⟨s_spec_l1In, fun a => D.spec_l1In a.1 a.2.1 a.2.2⟩
noncomputable def v_spec_l1In : Env := { ti := look tab, Γ := fns [], loop := fun _ => none, cut := fun _ => none, deep := fun _ => false }
theorem c_spec_l1In : Contract Try.prog 36 e_spec_l1In.sig e_spec_l1In.F :=
  den_is (E := v_spec_l1In) ⟨tab_ti, tab_eq⟩ (fns_nil _) mixed Try.func36 (by kernel_rfl) (by kernel_rfl) (fun x => by kernel_rfl)

def s_spec_IsValidKey : Sig := { params := [.val false y3], res := [.val false y4] }
noncomputable def e_spec_IsValidKey : Entry := ⟨s_spec_IsValidKey, fun a => D.spec_IsValidKey a⟩
noncomputable def v_spec_IsValidKey : Env := { ti := look tab, Γ := fns [(36, [], e_spec_l1In)], loop := fun _ => none, cut := fun _ => none, deep := fun _ => false }
theorem c_spec_IsValidKey : Contract Try.prog 82 e_spec_IsValidKey.sig e_spec_IsValidKey.F :=
  den_is (E := v_spec_IsValidKey) ⟨tab_ti, tab_eq⟩ (fns_cons c_spec_l1In (fns_nil _)) mixed Try.func82 (by kernel_rfl) (by kernel_rfl) (fun x => by kernel_rfl)

def s_spec_Mod : Sig := { params := [.val false y3, .val false y3], res := [.val false y3] }
noncomputable def e_spec_Mod : Entry := ⟨s_spec_Mod, fun a => D.spec_Mod a.1 a.2⟩
noncomputable def v_spec_Mod : Env := { ti := look tab, Γ := fns [(36, [], e_spec_l1In)], loop := fun _ => none, cut := fun _ => none, deep := fun _ => false }
theorem c_spec_Mod : Contract Try.prog 97 e_spec_Mod.sig e_spec_Mod.F :=
  den_is (E := v_spec_Mod) ⟨tab_ti, tab_eq⟩ (fns_cons c_spec_l1In (fns_nil _)) mixed Try.func97 (by kernel_rfl) (by kernel_rfl) (fun x => by kernel_rfl)

def s_spec_Hash : Sig := { params := [.val false y22], res := [.val false y3] }
noncomputable def e_spec_Hash : Entry := ⟨s_spec_Hash, fun a => D.spec_Hash a⟩
noncomputable def v_spec_Hash : Env := { ti := look tab, Γ := fns [(97, [], e_spec_Mod)], loop := fun b => match b with | 0 => some [.slot 3 (.int .i64), .slot 4 (.int .i64)] | _ => none, cut := fun _ => none, deep := fun _ => false }
theorem c_spec_Hash : Contract Try.prog 98 e_spec_Hash.sig e_spec_Hash.F :=
  den_is (E := v_spec_Hash) ⟨tab_ti, tab_eq⟩ (fns_cons c_spec_Mod (fns_nil _)) mixed Try.func98 (by kernel_rfl) (by kernel_rfl) (fun x => by kernel_rfl)

def s_spec_KeyedHash : Sig := { params := [.val false y3, .val false y22], res := [.val false y3] }
noncomputable def e_spec_KeyedHash : Entry := ⟨s_spec_KeyedHash, fun a => D.spec_KeyedHash a.1 a.2⟩
noncomputable def v_spec_KeyedHash : Env := { ti := look tab, Γ := fns [(98, [], e_spec_Hash)], loop := fun _ => none, cut := fun _ => none, deep := fun _ => false }
theorem c_spec_KeyedHash : Contract Try.prog 96 e_spec_KeyedHash.sig e_spec_KeyedHash.F :=
  den_is (E := v_spec_KeyedHash) ⟨tab_ti, tab_eq⟩ (fns_cons c_spec_Hash (fns_nil _)) mixed Try.func96 (by kernel_rfl) (by kernel_rfl) (fun x => by kernel_rfl)

def s_spec_SealStatement : Sig := { params := [.val false y3, .val true y38], res := [.val true y38] }
noncomputable def e_spec_SealStatement : Entry := ⟨s_spec_SealStatement, fun a => D.spec_SealStatement a.1 a.2⟩
noncomputable def v_spec_SealStatement : Env := { ti := look tab, Γ := fns [(82, [], e_spec_IsValidKey), (96, [], e_spec_KeyedHash)], loop := fun _ => none, cut := fun _ => none, deep := fun _ => false }
theorem c_spec_SealStatement : Contract Try.prog 73 e_spec_SealStatement.sig e_spec_SealStatement.F :=
  den_is (E := v_spec_SealStatement) ⟨tab_ti, tab_eq⟩ (fns_cons c_spec_IsValidKey (fns_cons c_spec_KeyedHash (fns_nil _))) mixed Try.func73 (by kernel_rfl) (by kernel_rfl) (fun x => by kernel_rfl)

def s_spec_IsStatement : Sig := { params := [.val false y22, .val true y38], res := [.val false y4] }
noncomputable def e_spec_IsStatement : Entry := ⟨s_spec_IsStatement, fun a => D.spec_IsStatement a.1 a.2⟩
noncomputable def v_spec_IsStatement : Env := { ti := look tab, Γ := fns [(36, [], e_spec_l1In), (82, [], e_spec_IsValidKey), (73, [], e_spec_SealStatement)], loop := fun _ => none, cut := fun _ => none, deep := fun _ => false }
theorem c_spec_IsStatement : Contract Try.prog 67 e_spec_IsStatement.sig e_spec_IsStatement.F :=
  den_is (E := v_spec_IsStatement) ⟨tab_ti, tab_eq⟩ (fns_cons c_spec_l1In (fns_cons c_spec_IsValidKey (fns_cons c_spec_SealStatement (fns_nil _)))) mixed Try.func67 (by kernel_rfl) (by kernel_rfl) (fun x => by kernel_rfl)

def s_spec_FirstSeen : Sig := { params := [.val false y22, .val false y27, .val false y3], res := [.row 3 y3 false] }
noncomputable def e_spec_FirstSeen : Entry := ⟨s_spec_FirstSeen, fun a => D.spec_FirstSeen a.1 a.2.1 a.2.2⟩
noncomputable def v_spec_FirstSeen : Env := { ti := look tab, Γ := fns [(67, [], e_spec_IsStatement)], loop := fun b => match b with | 0 => some [.slot 7 (.own 3 y3 false), .slot 8 (.int .i64)] | 2 => some [.slot 9 (.int .i64), .vec 7 3 y3 false] | _ => none, cut := fun _ => none, deep := fun _ => false }
theorem c_spec_FirstSeen : Contract Try.prog 35 e_spec_FirstSeen.sig e_spec_FirstSeen.F :=
  den_is (E := v_spec_FirstSeen) ⟨tab_ti, tab_eq⟩ (fns_cons c_spec_IsStatement (fns_nil _)) mixed Try.func35 (by kernel_rfl) (by kernel_rfl) (fun x => by kernel_rfl)

def s_spec_ProvenBy : Sig := { params := [.val false y22, .val false y27, .val false y3, .val false y3], res := [.val false y3] }
noncomputable def e_spec_ProvenBy : Entry := ⟨s_spec_ProvenBy, fun a => D.spec_ProvenBy a.1 a.2.1 a.2.2.1 a.2.2.2⟩
noncomputable def v_spec_ProvenBy : Env := { ti := look tab, Γ := fns [(35, [], e_spec_FirstSeen), (36, [], e_spec_l1In)], loop := fun b => match b with | 0 => some [.slot 10 (.own 3 y3 false), .slot 11 (.int .i64)] | 2 => some [.slot 12 (.int .i64)] | _ => none, cut := fun _ => none, deep := fun _ => false }
theorem c_spec_ProvenBy : Contract Try.prog 10 e_spec_ProvenBy.sig e_spec_ProvenBy.F :=
  den_is (E := v_spec_ProvenBy) ⟨tab_ti, tab_eq⟩ (fns_cons c_spec_FirstSeen (fns_cons c_spec_l1In (fns_nil _))) mixed Try.func10 (by kernel_rfl) (by kernel_rfl) (fun x => by kernel_rfl)

def s_bits_Mul64 : Sig := { params := [.val false y95, .val false y95], res := [.val false y95, .val false y95] }
noncomputable def e_bits_Mul64 : Entry := ⟨s_bits_Mul64, fun a => D.bits_Mul64 a.1 a.2⟩
noncomputable def v_bits_Mul64 : Env := { ti := look tab, Γ := fns [], loop := fun _ => none, cut := fun _ => none, deep := fun _ => false }
theorem c_bits_Mul64 : Contract Try.prog 95 e_bits_Mul64.sig e_bits_Mul64.F :=
  den_is (E := v_bits_Mul64) ⟨tab_ti, tab_eq⟩ (fns_nil _) mixed Try.func95 (by kernel_rfl) (by kernel_rfl) (fun x => by kernel_rfl)

def s_bits_Mul : Sig := { params := [.val false y77, .val false y77], res := [.val false y77, .val false y77] }
noncomputable def e_bits_Mul : Entry := ⟨s_bits_Mul, fun a => D.bits_Mul a.1 a.2⟩
noncomputable def v_bits_Mul : Env := { ti := look tab, Γ := fns [(95, [], e_bits_Mul64)], loop := fun _ => none, cut := fun _ => none, deep := fun _ => false }
theorem c_bits_Mul : Contract Try.prog 72 e_bits_Mul.sig e_bits_Mul.F :=
  den_is (E := v_bits_Mul) ⟨tab_ti, tab_eq⟩ (fns_cons c_bits_Mul64 (fns_nil _)) mixed Try.func72 (by kernel_rfl) (by kernel_rfl) (fun x => by kernel_rfl)

def s_slices_Repeat_int : Sig := { params := [.val false y22, .val false y3], res := [.row 3 y3 false] }
noncomputable def e_slices_Repeat_int : Entry := ⟨s_slices_Repeat_int, fun a => D.slices_Repeat_int a.1 a.2⟩
noncomputable def v_slices_Repeat_int : Env := { ti := look tab, Γ := fns [(72, [], e_bits_Mul)], loop := fun b => match b with | 0 => some [.slot 8 (.int .i64), .vec 7 3 y3 false] | _ => none, cut := fun _ => none, deep := fun _ => false }
theorem c_slices_Repeat_int : Contract Try.prog 46 e_slices_Repeat_int.sig e_slices_Repeat_int.F :=
  den_is (E := v_slices_Repeat_int) ⟨tab_ti, tab_eq⟩ (fns_cons c_bits_Mul (fns_nil _)) mixed Try.func46 (by kernel_rfl) (by kernel_rfl) (fun x => by kernel_rfl)

def s_impl_at : Sig := { params := [.val false y3, .val false y3], res := [.val false y4] }
noncomputable def e_impl_at : Entry := ⟨s_impl_at, fun a => D.impl_at a.1 a.2⟩
noncomputable def v_impl_at : Env := { ti := look tab, Γ := fns [], loop := fun _ => none, cut := fun _ => none, deep := fun _ => false }
theorem c_impl_at : Contract Try.prog 41 e_impl_at.sig e_impl_at.F :=
  den_is (E := v_impl_at) ⟨tab_ti, tab_eq⟩ (fns_nil _) mixed Try.func41 (by kernel_rfl) (by kernel_rfl) (fun x => by kernel_rfl)

def s_impl_InRange : Sig := { params := [.val false y3, .val false y3, .val false y3], res := [.val false y4] }
noncomputable def e_impl_InRange : Entry := ⟨s_impl_InRange, fun a => D.impl_InRange a.1 a.2.1 a.2.2⟩
noncomputable def v_impl_InRange : Env := { ti := look tab, Γ := fns [], loop := fun _ => none, cut := fun _ => none, deep := fun _ => false }
theorem c_impl_InRange : Contract Try.prog 51 e_impl_InRange.sig e_impl_InRange.F :=
  den_is (E := v_impl_InRange) ⟨tab_ti, tab_eq⟩ (fns_nil _) mixed Try.func51 (by kernel_rfl) (by kernel_rfl) (fun x => by kernel_rfl)

def s_impl_IsValidKey : Sig := { params := [.val false y3], res := [.val false y4] }
noncomputable def e_impl_IsValidKey : Entry := ⟨s_impl_IsValidKey, fun a => D.impl_IsValidKey a⟩
noncomputable def v_impl_IsValidKey : Env := { ti := look tab, Γ := fns [(51, [], e_impl_InRange)], loop := fun _ => none, cut := fun _ => none, deep := fun _ => false }
theorem c_impl_IsValidKey : Contract Try.prog 21 e_impl_IsValidKey.sig e_impl_IsValidKey.F :=
  den_is (E := v_impl_IsValidKey) ⟨tab_ti, tab_eq⟩ (fns_cons c_impl_InRange (fns_nil _)) mixed Try.func21 (by kernel_rfl) (by kernel_rfl) (fun x => by kernel_rfl)

def s_impl_Mod : Sig := { params := [.val false y3, .val false y3], res := [.val false y3] }
noncomputable def e_impl_Mod : Entry := ⟨s_impl_Mod, fun a => D.impl_Mod a.1 a.2⟩
noncomputable def v_impl_Mod : Env := { ti := look tab, Γ := fns [(51, [], e_impl_InRange)], loop := fun _ => none, cut := fun _ => none, deep := fun _ => false }
theorem c_impl_Mod : Contract Try.prog 61 e_impl_Mod.sig e_impl_Mod.F :=
  den_is (E := v_impl_Mod) ⟨tab_ti, tab_eq⟩ (fns_cons c_impl_InRange (fns_nil _)) mixed Try.func61 (by kernel_rfl) (by kernel_rfl) (fun x => by kernel_rfl)

def s_impl_Hash : Sig := { params := [.val false y22], res := [.val false y3] }
noncomputable def e_impl_Hash : Entry := ⟨s_impl_Hash, fun a => D.impl_Hash a⟩
noncomputable def v_impl_Hash : Env := { ti := look tab, Γ := fns [(61, [], e_impl_Mod)], loop := fun b => match b with | 0 => some [.slot 3 (.int .i64), .slot 8 (.int .i64)] | _ => none, cut := fun _ => none, deep := fun _ => false }
theorem c_impl_Hash : Contract Try.prog 62 e_impl_Hash.sig e_impl_Hash.F :=
  den_is (E := v_impl_Hash) ⟨tab_ti, tab_eq⟩ (fns_cons c_impl_Mod (fns_nil _)) mixed Try.func62 (by kernel_rfl) (by kernel_rfl) (fun x => by kernel_rfl)

def s_impl_KeyedHash : Sig := { params := [.val false y3, .val false y22], res := [.val false y3] }
noncomputable def e_impl_KeyedHash : Entry := ⟨s_impl_KeyedHash, fun a => D.impl_KeyedHash a.1 a.2⟩
noncomputable def v_impl_KeyedHash : Env := { ti := look tab, Γ := fns [(62, [], e_impl_Hash)], loop := fun _ => none, cut := fun _ => none, deep := fun _ => false }
theorem c_impl_KeyedHash : Contract Try.prog 48 e_impl_KeyedHash.sig e_impl_KeyedHash.F :=
  den_is (E := v_impl_KeyedHash) ⟨tab_ti, tab_eq⟩ (fns_cons c_impl_Hash (fns_nil _)) mixed Try.func48 (by kernel_rfl) (by kernel_rfl) (fun x => by kernel_rfl)

def s_impl_SealStatement : Sig := { params := [.val false y3, .val true y38], res := [.val true y38] }
noncomputable def e_impl_SealStatement : Entry := ⟨s_impl_SealStatement, fun a => D.impl_SealStatement a.1 a.2⟩
noncomputable def v_impl_SealStatement : Env := { ti := look tab, Γ := fns [(21, [], e_impl_IsValidKey), (48, [], e_impl_KeyedHash)], loop := fun _ => none, cut := fun _ => none, deep := fun _ => false }
theorem c_impl_SealStatement : Contract Try.prog 19 e_impl_SealStatement.sig e_impl_SealStatement.F :=
  den_is (E := v_impl_SealStatement) ⟨tab_ti, tab_eq⟩ (fns_cons c_impl_IsValidKey (fns_cons c_impl_KeyedHash (fns_nil _))) mixed Try.func19 (by kernel_rfl) (by kernel_rfl) (fun x => by kernel_rfl)

def s_impl_IsStatement : Sig := { params := [.val false y22, .val true y38], res := [.val false y4] }
noncomputable def e_impl_IsStatement : Entry := ⟨s_impl_IsStatement, fun a => D.impl_IsStatement a.1 a.2⟩
noncomputable def v_impl_IsStatement : Env := { ti := look tab, Γ := fns [(41, [], e_impl_at), (21, [], e_impl_IsValidKey), (51, [], e_impl_InRange), (19, [], e_impl_SealStatement)], loop := fun _ => none, cut := fun _ => none, deep := fun _ => false }
theorem c_impl_IsStatement : Contract Try.prog 47 e_impl_IsStatement.sig e_impl_IsStatement.F :=
  den_is (E := v_impl_IsStatement) ⟨tab_ti, tab_eq⟩ (fns_cons c_impl_at (fns_cons c_impl_IsValidKey (fns_cons c_impl_InRange (fns_cons c_impl_SealStatement (fns_nil _))))) mixed Try.func47 (by kernel_rfl) (by kernel_rfl) (fun x => by kernel_rfl)

def s_impl_FirstSeen : Sig := { params := [.val false y22, .val false y27, .val false y3], res := [.row 3 y3 false] }
noncomputable def e_impl_FirstSeen : Entry := ⟨s_impl_FirstSeen, fun a => D.impl_FirstSeen a.1 a.2.1 a.2.2⟩
noncomputable def v_impl_FirstSeen : Env := { ti := look tab, Γ := fns [(46, [], e_slices_Repeat_int), (47, [], e_impl_IsStatement)], loop := fun b => match b with | 0 => some [.slot 16 (.int .i64), .vec 7 3 y3 false] | _ => none, cut := fun _ => none, deep := fun _ => false }
theorem c_impl_FirstSeen : Contract Try.prog 18 e_impl_FirstSeen.sig e_impl_FirstSeen.F :=
  den_is (E := v_impl_FirstSeen) ⟨tab_ti, tab_eq⟩ (fns_cons c_slices_Repeat_int (fns_cons c_impl_IsStatement (fns_nil _))) mixed Try.func18 (by kernel_rfl) (by kernel_rfl) (fun x => by kernel_rfl)

def s_impl_ProvenBy : Sig := { params := [.val false y22, .val false y27, .val false y3, .val false y3], res := [.val false y3] }
noncomputable def e_impl_ProvenBy : Entry := ⟨s_impl_ProvenBy, fun a => D.impl_ProvenBy a.1 a.2.1 a.2.2.1 a.2.2.2⟩
theorem c_impl_ProvenBy : Contract Try.prog 13 e_impl_ProvenBy.sig e_impl_ProvenBy.F := Eq.mp (by kernel_rfl) (Go.Proofs.Ytekclbjiifiahaa.Ex.provenBy_is (T := y27) (F := e_impl_FirstSeen.F) (Eq.mp (by kernel_rfl) c_impl_FirstSeen))

def s_laws_eqIntS : Sig := { params := [.val false y22, .val false y22], res := [.val false y4] }
noncomputable def e_laws_eqIntS : Entry := ⟨s_laws_eqIntS, fun a => D.laws_eqIntS a.1 a.2⟩
noncomputable def v_laws_eqIntS : Env := { ti := look tab, Γ := fns [], loop := fun b => match b with | 0 => some [.slot 5 (.int .i64)] | _ => none, cut := fun _ => none, deep := fun _ => false }
theorem c_laws_eqIntS : Contract Try.prog 14 e_laws_eqIntS.sig e_laws_eqIntS.F :=
  den_is (E := v_laws_eqIntS) ⟨tab_ti, tab_eq⟩ (fns_nil _) mixed Try.func14 (by kernel_rfl) (by kernel_rfl) (fun x => by kernel_rfl)

def s_laws_eqStatement : Sig := { params := [.val true y38, .val true y38], res := [.val false y4] }
noncomputable def e_laws_eqStatement : Entry := ⟨s_laws_eqStatement, fun a => D.laws_eqStatement a.1 a.2⟩
noncomputable def v_laws_eqStatement : Env := { ti := look tab, Γ := fns [], loop := fun _ => none, cut := fun _ => none, deep := fun _ => false }
theorem c_laws_eqStatement : Contract Try.prog 42 e_laws_eqStatement.sig e_laws_eqStatement.F :=
  den_is (E := v_laws_eqStatement) ⟨tab_ti, tab_eq⟩ (fns_nil _) mixed Try.func42 (by kernel_rfl) (by kernel_rfl) (fun x => by kernel_rfl)

def s_laws_eqStatementS : Sig := { params := [.val false y27, .val false y27], res := [.val false y4] }
noncomputable def e_laws_eqStatementS : Entry := ⟨s_laws_eqStatementS, fun a => D.laws_eqStatementS a.1 a.2⟩
noncomputable def v_laws_eqStatementS : Env := { ti := look tab, Γ := fns [(42, [], e_laws_eqStatement)], loop := fun b => match b with | 0 => some [.slot 5 (.int .i64)] | _ => none, cut := fun _ => none, deep := fun _ => false }
theorem c_laws_eqStatementS : Contract Try.prog 15 e_laws_eqStatementS.sig e_laws_eqStatementS.F :=
  den_is (E := v_laws_eqStatementS) ⟨tab_ti, tab_eq⟩ (fns_cons c_laws_eqStatement (fns_nil _)) mixed Try.func15 (by kernel_rfl) (by kernel_rfl) (fun x => by kernel_rfl)

def s_laws_FnExactProvenBy : Sig := { params := [.val false y22, .val false y23, .val false y3, .val false y3], res := [.val false y4] }
noncomputable def e_laws_FnExactProvenBy : Entry := ⟨s_laws_FnExactProvenBy, fun a => D.laws_FnExactProvenBy a.1 a.2.1 a.2.2.1 a.2.2.2⟩
noncomputable def v_laws_FnExactProvenBy : Env := { ti := look tab, Γ := fns [(9, [], e_laws_szStatementS), (11, [], e_laws_toIntS), (12, [], e_laws_toStatementS), (10, [], e_spec_ProvenBy), (13, [], e_impl_ProvenBy), (14, [], e_laws_eqIntS), (15, [], e_laws_eqStatementS)], loop := fun _ => none, cut := fun _ => none, deep := fun _ => false }
theorem c_laws_FnExactProvenBy : Contract Try.prog 3 e_laws_FnExactProvenBy.sig e_laws_FnExactProvenBy.F :=
  den_is (E := v_laws_FnExactProvenBy) ⟨tab_ti, tab_eq⟩ (fns_cons c_laws_szStatementS (fns_cons c_laws_toIntS (fns_cons c_laws_toStatementS (fns_cons c_spec_ProvenBy (fns_cons c_impl_ProvenBy (fns_cons c_laws_eqIntS (fns_cons c_laws_eqStatementS (fns_nil _)))))))) mixed Try.func3 (by kernel_rfl) (by kernel_rfl) (fun x => by kernel_rfl)

theorem law_true (a : Tup (s_laws_FnExactProvenBy.params.map PTy.den)) (hok : argsOk Try.prog s_laws_FnExactProvenBy.params a) : D.laws_FnExactProvenBy a.1 a.2.1 a.2.2.1 a.2.2.2 = some true := D.FnExactProvenBy_true a.1 a.2.1 a.2.2.1 a.2.2.2 (Ty.ok_bd (P := Try.prog) (t := y22) (by kernel_rfl) hok.1) (Ty.ok_bd (P := Try.prog) (t := y23) (by kernel_rfl) hok.2.1) (Ty.ok_bd (P := Try.prog) (t := y3) (by kernel_rfl) hok.2.2.1) (Ty.ok_bd (P := Try.prog) (t := y3) (by kernel_rfl) hok.2.2.2.1)
theorem lifted (os : Os) (started : os.Started) (H : Type) (enc : TypeId × Value → H) :
    ReturnsInHanded {} Try.checked os 3 .any (Rows.fnExactProvenBySpec.pre6 enc Try.prog Try.f3 Rows.fnExactProvenByRow.domain false) (Rows.fnExactProvenBySpec.post enc Try.prog Try.f3 false true false false) := by
  refine returnsInHanded_of_change_sized (C := Try.checked) (by kernel_rfl) started (by kernel_rfl) Try.func3
    (ChangeSpec.witness6 (enc := enc) (C := Try.checked) false ⟨#[], #[.slice none 0 0, .slice none 0 0, .int .i64 0, .int .i64 0], []⟩ 8 (by kernel_rfl) (by kernel_rfl) (by kernel_rfl) (by kernel_rfl)) ?_
  intro W base args ds gs before hval hW hcnd hsz _
  exact law_row (C := Try.checked) rfl c_laws_FnExactProvenBy (N := 8) (by kernel_rfl) (tb := 4) (by kernel_rfl) (by kernel_rfl) (by kernel_rfl) (by kernel_rfl) rfl
    (fun ds h => by
      have h : ds.length = 4 := h
      match ds, h with
      | [d0, d1, d2, d3], _ => rfl)
    bulky_sizeOf (small := fun _ => True) (fun a ds hok _ _ => ⟨_, law_true a hok, rfl⟩) hval hW hsz trivial trivial

theorem over : Rows.fnExactProvenByRow.holds Try.pinned (OpenSpec.ofChange Rows.fnExactProvenBySpec) :=
  OpenClaim.holds_of_wide 3 Try.f3 rfl rfl rfl rfl rfl rfl rfl ⟨rfl, rfl, rfl, rfl, rfl⟩ rfl rfl rfl rfl rfl (by kernel_rfl) Try.func3 (by kernel_rfl)
    (of_decide_eq_true (by kernel_rfl)) (by unfold Func.isWrapper; first | (rw [if_pos (by decide +kernel)]; kernel_rfl) | (rw [if_neg (by decide +kernel)]; exact ⟨rfl, rfl⟩))
    (fun os started H enc _ => lifted os started H enc)
end Go.Proofs.Ytekclbjiifiahaa.SxFnExactProvenBy
namespace Go.Proofs.Ytekclbjiifiahaa
theorem fnExactProvenBy_holds : Rows.FnExactProvenBySaid := SxFnExactProvenBy.over
end Go.Proofs.Ytekclbjiifiahaa
