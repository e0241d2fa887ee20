/- FnExactCountHonest returns true for every input, and each input reads as it did. No condition. -/
import Derived.Test.YtkcdbncblmbekaaRows
import Derived.Test.YtkcdbncblmbekaaPuFnExactCountHonest
import Derived.WalkKit
import Derived.ProofKit
import Derived.ShutString
import Derived.SizedLaws
set_option linter.unusedVariables false
set_option maxRecDepth 100000
set_option maxHeartbeats 4000000
namespace Go.Proofs.Ytkcdbncblmbekaa.SxFnExactCountHonest
open Go Go.Sh Go.RowKit
def y3 : Ty := .int .i64
def y4 : Ty := .bool
def y30 : Ty := .slice 3 y3
def y101 : Ty := .pair y3 (.pair y3 (.pair y3 y3))
def y54 : Ty := .slice 101 y101
def y99 : Ty := .pair y3 (.pair y3 (.pair y3 y3))
def y57 : Ty := .slice 99 y99
def tab : List (TypeId × TI) := [(3, { size := 1, bytes := 8, agg := false, ty := some y3 }),
  (4, { size := 1, bytes := 1, agg := false, ty := some y4 }),
  (30, { size := 1, bytes := 24, agg := false, ty := some y30, elem := some 3 }),
  (101, { size := 4, bytes := 32, agg := true, ty := some y101, fields := [(0, 3), (1, 3), (2, 3), (3, 3)] }),
  (54, { size := 1, bytes := 24, agg := false, ty := some y54, elem := some 101 }),
  (99, { size := 4, bytes := 32, agg := true, ty := some y99, fields := [(0, 3), (1, 3), (2, 3), (3, 3)], eq := true }),
  (57, { size := 1, bytes := 24, agg := false, ty := some y57, elem := some 99 })]
def look : List (TypeId × TI) → TypeId → Option TI
  | [], _ => none
  | (k, i) :: r, t => if Nat.beq t k = true then some i else look r t
theorem look_ok {P : Program} : ∀ {l : List (TypeId × TI)}, (l.all fun p => tiOk P p.1 p.2) = true → ∀ t i, look l t = some i → tiOk P t i = true
  | [], _, t, i, h => by simp [look] at h
  | (k, j) :: r, h0, t, i, h => by
    simp only [List.all_cons, Bool.and_eq_true] at h0
    simp only [look] at h
    split at h
    · rename_i hk
      simp only [Option.some.injEq] at h
      have := Nat.eq_of_beq_eq_true hk
      subst this; subst h; exact h0.1
    · exact look_ok h0.2 t i h
theorem look_eq {P : Program} : ∀ {l : List (TypeId × TI)}, (l.all fun p => !p.2.eq || eqTop P p.1 p.2.ty) = true → ∀ t i, look l t = some i → i.eq = true → ∀ ty, i.ty = some ty → EqLaw P t ty.zero
  | [], _, t, i, h => by simp [look] at h
  | (k, j) :: r, h0, t, i, h => by
    simp only [List.all_cons, Bool.and_eq_true, Bool.or_eq_true, Bool.not_eq_true'] at h0
    simp only [look] at h
    split at h
    · rename_i hk
      simp only [Option.some.injEq] at h
      have := Nat.eq_of_beq_eq_true hk
      subst this; subst h
      intro he
      exact eqLaw_of (h0.1.resolve_left (by simp [he]))
    · exact look_eq h0.2 t i h
def same : List Nat → List Nat → Bool
  | [], [] => true
  | a :: x, b :: y => Nat.beq a b && same x y
  | _, _ => false
theorem same_eq : ∀ {x y : List Nat}, same x y = true → x = y
  | [], [], _ => rfl
  | a :: x, b :: y, h => by
    simp only [same, Bool.and_eq_true] at h
    rw [Nat.eq_of_beq_eq_true h.1, same_eq h.2]
  | [], _ :: _, h => by simp [same] at h
  | _ :: _, [], h => by simp [same] at h
def fns : List (FuncId × List FuncId × Entry) → FuncId → List FuncId → Option Entry
  | [], _, _ => none
  | (k, c, e) :: r, f, fs => if (Nat.beq f k && same fs c) = true then some e else fns r f fs
theorem fns_nil (P : Program) : ∀ f fs en, fns [] f fs = some en → Contract P f en.sig en.F := fun f fs en h => by simp [fns] at h
theorem fns_cons {P : Program} {k : FuncId} {c : List FuncId} {e : Entry} {r : List (FuncId × List FuncId × Entry)} (hk : Contract P k e.sig e.F) (hr : ∀ f fs en, fns r f fs = some en → Contract P f en.sig en.F) : ∀ f fs en, fns ((k, c, e) :: r) f fs = some en → Contract P f en.sig en.F := fun f fs en h => by
  simp only [fns] at h
  split at h
  · rename_i hf
    simp only [Bool.and_eq_true] at hf
    simp only [Option.some.injEq] at h
    have := Nat.eq_of_beq_eq_true hf.1
    subst this; subst h; exact hk
  · exact hr f fs en h

theorem tab_ti : ∀ t i, look tab t = some i → tiOk Try.prog t i = true := look_ok (by kernel_rfl)
theorem tab_eq : ∀ t i, look tab t = some i → i.eq = true → ∀ ty, i.ty = some ty → EqLaw Try.prog t ty.zero := look_eq (by kernel_rfl)
theorem mixed : Try.prog.follows .mixedOrders = true := by kernel_rfl
def s_laws_szStatementS : Sig := { params := [.val false y54, .val false y3], res := [.val false y3] }
noncomputable def e_laws_szStatementS : Entry := ⟨s_laws_szStatementS, fun a => D.laws_szStatementS a.1 a.2⟩
noncomputable def v_laws_szStatementS : Env := { ti := look tab, Γ := fns [], loop := fun _ => none, cut := fun _ => none, deep := fun _ => false }
theorem c_laws_szStatementS : Contract Try.prog 35 e_laws_szStatementS.sig e_laws_szStatementS.F :=
  den_is (E := v_laws_szStatementS) ⟨tab_ti, tab_eq⟩ (fns_nil _) mixed Try.func35 (by kernel_rfl) (by kernel_rfl) (fun x => by kernel_rfl)

def s_laws_toIntS : Sig := { params := [.val false y30], res := [.row 3 y3 false] }
noncomputable def e_laws_toIntS : Entry := ⟨s_laws_toIntS, fun a => D.laws_toIntS a⟩
noncomputable def v_laws_toIntS : Env := { ti := look tab, Γ := fns [], loop := fun b => match b with | 0 => some [.slot 4 (.int .i64), .vec 3 3 y3 false] | _ => none, cut := fun _ => none, deep := fun _ => false }
theorem c_laws_toIntS : Contract Try.prog 21 e_laws_toIntS.sig e_laws_toIntS.F :=
  den_is (E := v_laws_toIntS) ⟨tab_ti, tab_eq⟩ (fns_nil _) mixed Try.func21 (by kernel_rfl) (by kernel_rfl) (fun x => by kernel_rfl)

def s_laws_toStatement : Sig := { params := [.val true y101], res := [.val true y99] }
noncomputable def e_laws_toStatement : Entry := ⟨s_laws_toStatement, fun a => D.laws_toStatement a⟩
noncomputable def v_laws_toStatement : Env := { ti := look tab, Γ := fns [], loop := fun _ => none, cut := fun _ => none, deep := fun _ => false }
theorem c_laws_toStatement : Contract Try.prog 80 e_laws_toStatement.sig e_laws_toStatement.F :=
  den_is (E := v_laws_toStatement) ⟨tab_ti, tab_eq⟩ (fns_nil _) mixed Try.func80 (by kernel_rfl) (by kernel_rfl) (fun x => by kernel_rfl)

def s_laws_toStatementS : Sig := { params := [.val false y54], res := [.row 99 y99 false] }
noncomputable def e_laws_toStatementS : Entry := ⟨s_laws_toStatementS, fun a => D.laws_toStatementS a⟩
noncomputable def v_laws_toStatementS : Env := { ti := look tab, Γ := fns [(80, [], e_laws_toStatement)], loop := fun b => match b with | 0 => some [.slot 4 (.int .i64), .vec 3 99 y99 false] | _ => none, cut := fun _ => none, deep := fun _ => false }
theorem c_laws_toStatementS : Contract Try.prog 37 e_laws_toStatementS.sig e_laws_toStatementS.F :=
  den_is (E := v_laws_toStatementS) ⟨tab_ti, tab_eq⟩ (fns_cons c_laws_toStatement (fns_nil _)) mixed Try.func37 (by kernel_rfl) (by kernel_rfl) (fun x => by kernel_rfl)

def s_spec_l1In : Sig := { params := [.val false y3, .val false y3, .val false y3], res := [.val false y4] }
noncomputable def e_spec_l1In : Entry := ⟨s_spec_l1In, fun a => D.spec_l1In a.1 a.2.1 a.2.2⟩
noncomputable def v_spec_l1In : Env := { ti := look tab, Γ := fns [], loop := fun _ => none, cut := fun _ => none, deep := fun _ => false }
theorem c_spec_l1In : Contract Try.prog 64 e_spec_l1In.sig e_spec_l1In.F :=
  den_is (E := v_spec_l1In) ⟨tab_ti, tab_eq⟩ (fns_nil _) mixed Try.func64 (by kernel_rfl) (by kernel_rfl) (fun x => by kernel_rfl)

def s_spec_IsValidKey : Sig := { params := [.val false y3], res := [.val false y4] }
noncomputable def e_spec_IsValidKey : Entry := ⟨s_spec_IsValidKey, fun a => D.spec_IsValidKey a⟩
noncomputable def v_spec_IsValidKey : Env := { ti := look tab, Γ := fns [(64, [], e_spec_l1In)], loop := fun _ => none, cut := fun _ => none, deep := fun _ => false }
theorem c_spec_IsValidKey : Contract Try.prog 97 e_spec_IsValidKey.sig e_spec_IsValidKey.F :=
  den_is (E := v_spec_IsValidKey) ⟨tab_ti, tab_eq⟩ (fns_cons c_spec_l1In (fns_nil _)) mixed Try.func97 (by kernel_rfl) (by kernel_rfl) (fun x => by kernel_rfl)

def s_spec_Mod : Sig := { params := [.val false y3, .val false y3], res := [.val false y3] }
noncomputable def e_spec_Mod : Entry := ⟨s_spec_Mod, fun a => D.spec_Mod a.1 a.2⟩
noncomputable def v_spec_Mod : Env := { ti := look tab, Γ := fns [(64, [], e_spec_l1In)], loop := fun _ => none, cut := fun _ => none, deep := fun _ => false }
theorem c_spec_Mod : Contract Try.prog 100 e_spec_Mod.sig e_spec_Mod.F :=
  den_is (E := v_spec_Mod) ⟨tab_ti, tab_eq⟩ (fns_cons c_spec_l1In (fns_nil _)) mixed Try.func100 (by kernel_rfl) (by kernel_rfl) (fun x => by kernel_rfl)

def s_spec_Hash : Sig := { params := [.val false y30], res := [.val false y3] }
noncomputable def e_spec_Hash : Entry := ⟨s_spec_Hash, fun a => D.spec_Hash a⟩
noncomputable def v_spec_Hash : Env := { ti := look tab, Γ := fns [(100, [], e_spec_Mod)], loop := fun b => match b with | 0 => some [.slot 3 (.int .i64), .slot 4 (.int .i64)] | _ => none, cut := fun _ => none, deep := fun _ => false }
theorem c_spec_Hash : Contract Try.prog 93 e_spec_Hash.sig e_spec_Hash.F :=
  den_is (E := v_spec_Hash) ⟨tab_ti, tab_eq⟩ (fns_cons c_spec_Mod (fns_nil _)) mixed Try.func93 (by kernel_rfl) (by kernel_rfl) (fun x => by kernel_rfl)

def s_spec_KeyedHash : Sig := { params := [.val false y3, .val false y30], res := [.val false y3] }
noncomputable def e_spec_KeyedHash : Entry := ⟨s_spec_KeyedHash, fun a => D.spec_KeyedHash a.1 a.2⟩
noncomputable def v_spec_KeyedHash : Env := { ti := look tab, Γ := fns [(93, [], e_spec_Hash)], loop := fun _ => none, cut := fun _ => none, deep := fun _ => false }
theorem c_spec_KeyedHash : Contract Try.prog 98 e_spec_KeyedHash.sig e_spec_KeyedHash.F :=
  den_is (E := v_spec_KeyedHash) ⟨tab_ti, tab_eq⟩ (fns_cons c_spec_Hash (fns_nil _)) mixed Try.func98 (by kernel_rfl) (by kernel_rfl) (fun x => by kernel_rfl)

def s_spec_SealStatement : Sig := { params := [.val false y3, .val true y99], res := [.val true y99] }
noncomputable def e_spec_SealStatement : Entry := ⟨s_spec_SealStatement, fun a => D.spec_SealStatement a.1 a.2⟩
noncomputable def v_spec_SealStatement : Env := { ti := look tab, Γ := fns [(97, [], e_spec_IsValidKey), (98, [], e_spec_KeyedHash)], loop := fun _ => none, cut := fun _ => none, deep := fun _ => false }
theorem c_spec_SealStatement : Contract Try.prog 104 e_spec_SealStatement.sig e_spec_SealStatement.F :=
  den_is (E := v_spec_SealStatement) ⟨tab_ti, tab_eq⟩ (fns_cons c_spec_IsValidKey (fns_cons c_spec_KeyedHash (fns_nil _))) mixed Try.func104 (by kernel_rfl) (by kernel_rfl) (fun x => by kernel_rfl)

def s_spec_IsStatement : Sig := { params := [.val false y30, .val true y99], res := [.val false y4] }
noncomputable def e_spec_IsStatement : Entry := ⟨s_spec_IsStatement, fun a => D.spec_IsStatement a.1 a.2⟩
noncomputable def v_spec_IsStatement : Env := { ti := look tab, Γ := fns [(64, [], e_spec_l1In), (97, [], e_spec_IsValidKey), (104, [], e_spec_SealStatement)], loop := fun _ => none, cut := fun _ => none, deep := fun _ => false }
theorem c_spec_IsStatement : Contract Try.prog 79 e_spec_IsStatement.sig e_spec_IsStatement.F :=
  den_is (E := v_spec_IsStatement) ⟨tab_ti, tab_eq⟩ (fns_cons c_spec_l1In (fns_cons c_spec_IsValidKey (fns_cons c_spec_SealStatement (fns_nil _)))) mixed Try.func79 (by kernel_rfl) (by kernel_rfl) (fun x => by kernel_rfl)

def s_spec_CountHonest : Sig := { params := [.val false y30, .val false y57], res := [.val false y3] }
noncomputable def e_spec_CountHonest : Entry := ⟨s_spec_CountHonest, fun a => D.spec_CountHonest a.1 a.2⟩
noncomputable def v_spec_CountHonest : Env := { ti := look tab, Γ := fns [(79, [], e_spec_IsStatement)], loop := fun b => match b with | 0 => some [.slot 5 (.int .i64), .slot 6 (.int .i64)] | _ => none, cut := fun _ => none, deep := fun _ => false }
theorem c_spec_CountHonest : Contract Try.prog 36 e_spec_CountHonest.sig e_spec_CountHonest.F :=
  den_is (E := v_spec_CountHonest) ⟨tab_ti, tab_eq⟩ (fns_cons c_spec_IsStatement (fns_nil _)) mixed Try.func36 (by kernel_rfl) (by kernel_rfl) (fun x => by kernel_rfl)

def s_impl_at : Sig := { params := [.val false y3, .val false y3], res := [.val false y4] }
noncomputable def e_impl_at : Entry := ⟨s_impl_at, fun a => D.impl_at a.1 a.2⟩
noncomputable def v_impl_at : Env := { ti := look tab, Γ := fns [], loop := fun _ => none, cut := fun _ => none, deep := fun _ => false }
theorem c_impl_at : Contract Try.prog 105 e_impl_at.sig e_impl_at.F :=
  den_is (E := v_impl_at) ⟨tab_ti, tab_eq⟩ (fns_nil _) mixed Try.func105 (by kernel_rfl) (by kernel_rfl) (fun x => by kernel_rfl)

def s_impl_InRange : Sig := { params := [.val false y3, .val false y3, .val false y3], res := [.val false y4] }
noncomputable def e_impl_InRange : Entry := ⟨s_impl_InRange, fun a => D.impl_InRange a.1 a.2.1 a.2.2⟩
noncomputable def v_impl_InRange : Env := { ti := look tab, Γ := fns [], loop := fun _ => none, cut := fun _ => none, deep := fun _ => false }
theorem c_impl_InRange : Contract Try.prog 95 e_impl_InRange.sig e_impl_InRange.F :=
  den_is (E := v_impl_InRange) ⟨tab_ti, tab_eq⟩ (fns_nil _) mixed Try.func95 (by kernel_rfl) (by kernel_rfl) (fun x => by kernel_rfl)

def s_impl_IsValidKey : Sig := { params := [.val false y3], res := [.val false y4] }
noncomputable def e_impl_IsValidKey : Entry := ⟨s_impl_IsValidKey, fun a => D.impl_IsValidKey a⟩
noncomputable def v_impl_IsValidKey : Env := { ti := look tab, Γ := fns [(95, [], e_impl_InRange)], loop := fun _ => none, cut := fun _ => none, deep := fun _ => false }
theorem c_impl_IsValidKey : Contract Try.prog 106 e_impl_IsValidKey.sig e_impl_IsValidKey.F :=
  den_is (E := v_impl_IsValidKey) ⟨tab_ti, tab_eq⟩ (fns_cons c_impl_InRange (fns_nil _)) mixed Try.func106 (by kernel_rfl) (by kernel_rfl) (fun x => by kernel_rfl)

def s_impl_Mod : Sig := { params := [.val false y3, .val false y3], res := [.val false y3] }
noncomputable def e_impl_Mod : Entry := ⟨s_impl_Mod, fun a => D.impl_Mod a.1 a.2⟩
noncomputable def v_impl_Mod : Env := { ti := look tab, Γ := fns [(95, [], e_impl_InRange)], loop := fun _ => none, cut := fun _ => none, deep := fun _ => false }
theorem c_impl_Mod : Contract Try.prog 111 e_impl_Mod.sig e_impl_Mod.F :=
  den_is (E := v_impl_Mod) ⟨tab_ti, tab_eq⟩ (fns_cons c_impl_InRange (fns_nil _)) mixed Try.func111 (by kernel_rfl) (by kernel_rfl) (fun x => by kernel_rfl)

def s_impl_Hash : Sig := { params := [.val false y30], res := [.val false y3] }
noncomputable def e_impl_Hash : Entry := ⟨s_impl_Hash, fun a => D.impl_Hash a⟩
noncomputable def v_impl_Hash : Env := { ti := look tab, Γ := fns [(111, [], e_impl_Mod)], loop := fun b => match b with | 0 => some [.slot 3 (.int .i64), .slot 8 (.int .i64)] | _ => none, cut := fun _ => none, deep := fun _ => false }
theorem c_impl_Hash : Contract Try.prog 96 e_impl_Hash.sig e_impl_Hash.F :=
  den_is (E := v_impl_Hash) ⟨tab_ti, tab_eq⟩ (fns_cons c_impl_Mod (fns_nil _)) mixed Try.func96 (by kernel_rfl) (by kernel_rfl) (fun x => by kernel_rfl)

def s_impl_KeyedHash : Sig := { params := [.val false y3, .val false y30], res := [.val false y3] }
noncomputable def e_impl_KeyedHash : Entry := ⟨s_impl_KeyedHash, fun a => D.impl_KeyedHash a.1 a.2⟩
noncomputable def v_impl_KeyedHash : Env := { ti := look tab, Γ := fns [(96, [], e_impl_Hash)], loop := fun _ => none, cut := fun _ => none, deep := fun _ => false }
theorem c_impl_KeyedHash : Contract Try.prog 112 e_impl_KeyedHash.sig e_impl_KeyedHash.F :=
  den_is (E := v_impl_KeyedHash) ⟨tab_ti, tab_eq⟩ (fns_cons c_impl_Hash (fns_nil _)) mixed Try.func112 (by kernel_rfl) (by kernel_rfl) (fun x => by kernel_rfl)

def s_impl_SealStatement : Sig := { params := [.val false y3, .val true y99], res := [.val true y99] }
noncomputable def e_impl_SealStatement : Entry := ⟨s_impl_SealStatement, fun a => D.impl_SealStatement a.1 a.2⟩
noncomputable def v_impl_SealStatement : Env := { ti := look tab, Γ := fns [(106, [], e_impl_IsValidKey), (112, [], e_impl_KeyedHash)], loop := fun _ => none, cut := fun _ => none, deep := fun _ => false }
theorem c_impl_SealStatement : Contract Try.prog 107 e_impl_SealStatement.sig e_impl_SealStatement.F :=
  den_is (E := v_impl_SealStatement) ⟨tab_ti, tab_eq⟩ (fns_cons c_impl_IsValidKey (fns_cons c_impl_KeyedHash (fns_nil _))) mixed Try.func107 (by kernel_rfl) (by kernel_rfl) (fun x => by kernel_rfl)

def s_impl_IsStatement : Sig := { params := [.val false y30, .val true y99], res := [.val false y4] }
noncomputable def e_impl_IsStatement : Entry := ⟨s_impl_IsStatement, fun a => D.impl_IsStatement a.1 a.2⟩
noncomputable def v_impl_IsStatement : Env := { ti := look tab, Γ := fns [(105, [], e_impl_at), (106, [], e_impl_IsValidKey), (95, [], e_impl_InRange), (107, [], e_impl_SealStatement)], loop := fun _ => none, cut := fun _ => none, deep := fun _ => false }
theorem c_impl_IsStatement : Contract Try.prog 81 e_impl_IsStatement.sig e_impl_IsStatement.F :=
  den_is (E := v_impl_IsStatement) ⟨tab_ti, tab_eq⟩ (fns_cons c_impl_at (fns_cons c_impl_IsValidKey (fns_cons c_impl_InRange (fns_cons c_impl_SealStatement (fns_nil _))))) mixed Try.func81 (by kernel_rfl) (by kernel_rfl) (fun x => by kernel_rfl)

def s_impl_CountHonest : Sig := { params := [.val false y30, .val false y57], res := [.val false y3] }
noncomputable def e_impl_CountHonest : Entry := ⟨s_impl_CountHonest, fun a => D.impl_CountHonest a.1 a.2⟩
noncomputable def v_impl_CountHonest : Env := { ti := look tab, Γ := fns [(81, [], e_impl_IsStatement)], loop := fun b => match b with | 0 => some [.slot 5 (.int .i64), .slot 10 (.int .i64)] | _ => none, cut := fun _ => none, deep := fun _ => false }
theorem c_impl_CountHonest : Contract Try.prog 38 e_impl_CountHonest.sig e_impl_CountHonest.F :=
  den_is (E := v_impl_CountHonest) ⟨tab_ti, tab_eq⟩ (fns_cons c_impl_IsStatement (fns_nil _)) mixed Try.func38 (by kernel_rfl) (by kernel_rfl) (fun x => by kernel_rfl)

def s_laws_eqIntS : Sig := { params := [.val false y30, .val false y30], res := [.val false y4] }
noncomputable def e_laws_eqIntS : Entry := ⟨s_laws_eqIntS, fun a => D.laws_eqIntS a.1 a.2⟩
noncomputable def v_laws_eqIntS : Env := { ti := look tab, Γ := fns [], loop := fun b => match b with | 0 => some [.slot 5 (.int .i64)] | _ => none, cut := fun _ => none, deep := fun _ => false }
theorem c_laws_eqIntS : Contract Try.prog 24 e_laws_eqIntS.sig e_laws_eqIntS.F :=
  den_is (E := v_laws_eqIntS) ⟨tab_ti, tab_eq⟩ (fns_nil _) mixed Try.func24 (by kernel_rfl) (by kernel_rfl) (fun x => by kernel_rfl)

def s_laws_eqStatement : Sig := { params := [.val true y99, .val true y99], res := [.val false y4] }
noncomputable def e_laws_eqStatement : Entry := ⟨s_laws_eqStatement, fun a => D.laws_eqStatement a.1 a.2⟩
noncomputable def v_laws_eqStatement : Env := { ti := look tab, Γ := fns [], loop := fun _ => none, cut := fun _ => none, deep := fun _ => false }
theorem c_laws_eqStatement : Contract Try.prog 82 e_laws_eqStatement.sig e_laws_eqStatement.F :=
  den_is (E := v_laws_eqStatement) ⟨tab_ti, tab_eq⟩ (fns_nil _) mixed Try.func82 (by kernel_rfl) (by kernel_rfl) (fun x => by kernel_rfl)

def s_laws_eqStatementS : Sig := { params := [.val false y57, .val false y57], res := [.val false y4] }
noncomputable def e_laws_eqStatementS : Entry := ⟨s_laws_eqStatementS, fun a => D.laws_eqStatementS a.1 a.2⟩
noncomputable def v_laws_eqStatementS : Env := { ti := look tab, Γ := fns [(82, [], e_laws_eqStatement)], loop := fun b => match b with | 0 => some [.slot 5 (.int .i64)] | _ => none, cut := fun _ => none, deep := fun _ => false }
theorem c_laws_eqStatementS : Contract Try.prog 39 e_laws_eqStatementS.sig e_laws_eqStatementS.F :=
  den_is (E := v_laws_eqStatementS) ⟨tab_ti, tab_eq⟩ (fns_cons c_laws_eqStatement (fns_nil _)) mixed Try.func39 (by kernel_rfl) (by kernel_rfl) (fun x => by kernel_rfl)

def s_laws_FnExactCountHonest : Sig := { params := [.val false y30, .val false y54], res := [.val false y4] }
noncomputable def e_laws_FnExactCountHonest : Entry := ⟨s_laws_FnExactCountHonest, fun a => D.laws_FnExactCountHonest a.1 a.2⟩
noncomputable def v_laws_FnExactCountHonest : Env := { ti := look tab, Γ := fns [(35, [], e_laws_szStatementS), (21, [], e_laws_toIntS), (37, [], e_laws_toStatementS), (36, [], e_spec_CountHonest), (38, [], e_impl_CountHonest), (24, [], e_laws_eqIntS), (39, [], e_laws_eqStatementS)], loop := fun _ => none, cut := fun _ => none, deep := fun _ => false }
theorem c_laws_FnExactCountHonest : Contract Try.prog 7 e_laws_FnExactCountHonest.sig e_laws_FnExactCountHonest.F :=
  den_is (E := v_laws_FnExactCountHonest) ⟨tab_ti, tab_eq⟩ (fns_cons c_laws_szStatementS (fns_cons c_laws_toIntS (fns_cons c_laws_toStatementS (fns_cons c_spec_CountHonest (fns_cons c_impl_CountHonest (fns_cons c_laws_eqIntS (fns_cons c_laws_eqStatementS (fns_nil _)))))))) mixed Try.func7 (by kernel_rfl) (by kernel_rfl) (fun x => by kernel_rfl)

theorem law_true (a : Tup (s_laws_FnExactCountHonest.params.map PTy.den)) (hok : argsOk Try.prog s_laws_FnExactCountHonest.params a) : D.laws_FnExactCountHonest a.1 a.2 = some true := D.FnExactCountHonest_true a.1 a.2 (Ty.ok_bd (P := Try.prog) (t := y30) (by kernel_rfl) hok.1) (Ty.ok_bd (P := Try.prog) (t := y54) (by kernel_rfl) hok.2.1)
theorem lifted (os : Os) (started : os.Started) (H : Type) (enc : TypeId × Value → H) :
    ReturnsInHanded {} Try.checked os 7 .any (Rows.fnExactCountHonestSpec.pre6 enc Try.prog Try.f7 Rows.fnExactCountHonestRow.domain false) (Rows.fnExactCountHonestSpec.post enc Try.prog Try.f7 false true false false) := by
  refine returnsInHanded_of_change_sized (C := Try.checked) (by kernel_rfl) started (by kernel_rfl) Try.func7
    (ChangeSpec.witness6 (enc := enc) (C := Try.checked) false ⟨#[], #[.slice none 0 0, .slice none 0 0], []⟩ 8 (by kernel_rfl) (by kernel_rfl) (by kernel_rfl) (by kernel_rfl)) ?_
  intro W base args ds gs before hval hW hcnd hsz _
  exact law_row (C := Try.checked) rfl c_laws_FnExactCountHonest (N := 8) (by kernel_rfl) (tb := 4) (by kernel_rfl) (by kernel_rfl) (by kernel_rfl) (by kernel_rfl) rfl
    (fun ds h => by
      have h : ds.length = 2 := h
      match ds, h with
      | [d0, d1], _ => rfl)
    bulky_sizeOf (small := fun _ => True) (fun a ds hok _ _ => ⟨_, law_true a hok, rfl⟩) hval hW hsz trivial

theorem over : Rows.fnExactCountHonestRow.holds Try.pinned (OpenSpec.ofChange Rows.fnExactCountHonestSpec) :=
  OpenClaim.holds_of_wide 7 Try.f7 rfl rfl rfl rfl rfl rfl rfl ⟨rfl, rfl, rfl, rfl, rfl⟩ rfl rfl rfl rfl rfl (by kernel_rfl) Try.func7 (by kernel_rfl)
    (of_decide_eq_true (by kernel_rfl)) (by unfold Func.isWrapper; first | (rw [if_pos (by decide +kernel)]; kernel_rfl) | (rw [if_neg (by decide +kernel)]; exact ⟨rfl, rfl⟩))
    (fun os started H enc _ => lifted os started H enc)
end Go.Proofs.Ytkcdbncblmbekaa.SxFnExactCountHonest
namespace Go.Proofs.Ytkcdbncblmbekaa
theorem fnExactCountHonest_holds : Rows.FnExactCountHonestSaid := SxFnExactCountHonest.over
end Go.Proofs.Ytkcdbncblmbekaa
