/- FnExactIsRedactionOf returns true for every input, and each input reads as it did. No condition. -/
import Derived.Test.YtkcdbncblmbekaaRows
import Derived.Test.YtkcdbncblmbekaaPuFnExactIsRedactionOf
import Derived.WalkKit
import Derived.ProofKit
import Derived.ShutString
import Derived.SizedLaws
set_option linter.unusedVariables false
set_option maxRecDepth 100000
set_option maxHeartbeats 4000000
namespace Go.Proofs.Ytkcdbncblmbekaa.SxFnExactIsRedactionOf
open Go Go.Sh Go.RowKit
def y3 : Ty := .int .i64
def y4 : Ty := .bool
def y87 : Ty := .pair y3 (.pair y3 (.pair y4 y3))
def y29 : Ty := .slice 87 y87
def y30 : Ty := .slice 3 y3
def y85 : Ty := .pair y3 (.pair y3 (.pair y4 y3))
def y32 : Ty := .slice 85 y85
def tab : List (TypeId × TI) := [(3, { size := 1, bytes := 8, agg := false, ty := some y3 }),
  (4, { size := 1, bytes := 1, agg := false, ty := some y4 }),
  (87, { size := 4, bytes := 32, agg := true, ty := some y87, fields := [(0, 3), (1, 3), (2, 4), (3, 3)] }),
  (29, { size := 1, bytes := 24, agg := false, ty := some y29, elem := some 87 }),
  (30, { size := 1, bytes := 24, agg := false, ty := some y30, elem := some 3 }),
  (85, { size := 4, bytes := 32, agg := true, ty := some y85, fields := [(0, 3), (1, 3), (2, 4), (3, 3)] }),
  (32, { size := 1, bytes := 24, agg := false, ty := some y32, elem := some 85 })]
def look : List (TypeId × TI) → TypeId → Option TI
  | [], _ => none
  | (k, i) :: r, t => if Nat.beq t k = true then some i else look r t
theorem look_ok {P : Program} : ∀ {l : List (TypeId × TI)}, (l.all fun p => tiOk P p.1 p.2) = true → ∀ t i, look l t = some i → tiOk P t i = true
  | [], _, t, i, h => by simp [look] at h
  | (k, j) :: r, h0, t, i, h => by
    simp only [List.all_cons, Bool.and_eq_true] at h0
    simp only [look] at h
    split at h
    · rename_i hk
      simp only [Option.some.injEq] at h
      have := Nat.eq_of_beq_eq_true hk
      subst this; subst h; exact h0.1
    · exact look_ok h0.2 t i h
theorem look_eq {P : Program} : ∀ {l : List (TypeId × TI)}, (l.all fun p => !p.2.eq || eqTop P p.1 p.2.ty) = true → ∀ t i, look l t = some i → i.eq = true → ∀ ty, i.ty = some ty → EqLaw P t ty.zero
  | [], _, t, i, h => by simp [look] at h
  | (k, j) :: r, h0, t, i, h => by
    simp only [List.all_cons, Bool.and_eq_true, Bool.or_eq_true, Bool.not_eq_true'] at h0
    simp only [look] at h
    split at h
    · rename_i hk
      simp only [Option.some.injEq] at h
      have := Nat.eq_of_beq_eq_true hk
      subst this; subst h
      intro he
      exact eqLaw_of (h0.1.resolve_left (by simp [he]))
    · exact look_eq h0.2 t i h
def same : List Nat → List Nat → Bool
  | [], [] => true
  | a :: x, b :: y => Nat.beq a b && same x y
  | _, _ => false
theorem same_eq : ∀ {x y : List Nat}, same x y = true → x = y
  | [], [], _ => rfl
  | a :: x, b :: y, h => by
    simp only [same, Bool.and_eq_true] at h
    rw [Nat.eq_of_beq_eq_true h.1, same_eq h.2]
  | [], _ :: _, h => by simp [same] at h
  | _ :: _, [], h => by simp [same] at h
def fns : List (FuncId × List FuncId × Entry) → FuncId → List FuncId → Option Entry
  | [], _, _ => none
  | (k, c, e) :: r, f, fs => if (Nat.beq f k && same fs c) = true then some e else fns r f fs
theorem fns_nil (P : Program) : ∀ f fs en, fns [] f fs = some en → Contract P f en.sig en.F := fun f fs en h => by simp [fns] at h
theorem fns_cons {P : Program} {k : FuncId} {c : List FuncId} {e : Entry} {r : List (FuncId × List FuncId × Entry)} (hk : Contract P k e.sig e.F) (hr : ∀ f fs en, fns r f fs = some en → Contract P f en.sig en.F) : ∀ f fs en, fns ((k, c, e) :: r) f fs = some en → Contract P f en.sig en.F := fun f fs en h => by
  simp only [fns] at h
  split at h
  · rename_i hf
    simp only [Bool.and_eq_true] at hf
    simp only [Option.some.injEq] at h
    have := Nat.eq_of_beq_eq_true hf.1
    subst this; subst h; exact hk
  · exact hr f fs en h

theorem tab_ti : ∀ t i, look tab t = some i → tiOk Try.prog t i = true := look_ok (by kernel_rfl)
theorem tab_eq : ∀ t i, look tab t = some i → i.eq = true → ∀ ty, i.ty = some ty → EqLaw Try.prog t ty.zero := look_eq (by kernel_rfl)
theorem mixed : Try.prog.follows .mixedOrders = true := by kernel_rfl
def s_laws_szLeafS : Sig := { params := [.val false y29, .val false y3], res := [.val false y3] }
noncomputable def e_laws_szLeafS : Entry := ⟨s_laws_szLeafS, fun a => D.laws_szLeafS a.1 a.2⟩
noncomputable def v_laws_szLeafS : Env := { ti := look tab, Γ := fns [], loop := fun _ => none, cut := fun _ => none, deep := fun _ => false }
theorem c_laws_szLeafS : Contract Try.prog 18 e_laws_szLeafS.sig e_laws_szLeafS.F :=
  den_is (E := v_laws_szLeafS) ⟨tab_ti, tab_eq⟩ (fns_nil _) mixed Try.func18 (by kernel_rfl) (by kernel_rfl) (fun x => by kernel_rfl)

def s_laws_toLeaf : Sig := { params := [.val true y87], res := [.val true y85] }
noncomputable def e_laws_toLeaf : Entry := ⟨s_laws_toLeaf, fun a => D.laws_toLeaf a⟩
noncomputable def v_laws_toLeaf : Env := { ti := look tab, Γ := fns [], loop := fun _ => none, cut := fun _ => none, deep := fun _ => false }
theorem c_laws_toLeaf : Contract Try.prog 65 e_laws_toLeaf.sig e_laws_toLeaf.F :=
  den_is (E := v_laws_toLeaf) ⟨tab_ti, tab_eq⟩ (fns_nil _) mixed Try.func65 (by kernel_rfl) (by kernel_rfl) (fun x => by kernel_rfl)

def s_laws_toLeafS : Sig := { params := [.val false y29], res := [.row 85 y85 false] }
noncomputable def e_laws_toLeafS : Entry := ⟨s_laws_toLeafS, fun a => D.laws_toLeafS a⟩
noncomputable def v_laws_toLeafS : Env := { ti := look tab, Γ := fns [(65, [], e_laws_toLeaf)], loop := fun b => match b with | 0 => some [.slot 4 (.int .i64), .vec 3 85 y85 false] | _ => none, cut := fun _ => none, deep := fun _ => false }
theorem c_laws_toLeafS : Contract Try.prog 20 e_laws_toLeafS.sig e_laws_toLeafS.F :=
  den_is (E := v_laws_toLeafS) ⟨tab_ti, tab_eq⟩ (fns_cons c_laws_toLeaf (fns_nil _)) mixed Try.func20 (by kernel_rfl) (by kernel_rfl) (fun x => by kernel_rfl)

def s_spec_l1In : Sig := { params := [.val false y3, .val false y3, .val false y3], res := [.val false y4] }
noncomputable def e_spec_l1In : Entry := ⟨s_spec_l1In, fun a => D.spec_l1In a.1 a.2.1 a.2.2⟩
noncomputable def v_spec_l1In : Env := { ti := look tab, Γ := fns [], loop := fun _ => none, cut := fun _ => none, deep := fun _ => false }
theorem c_spec_l1In : Contract Try.prog 64 e_spec_l1In.sig e_spec_l1In.F :=
  den_is (E := v_spec_l1In) ⟨tab_ti, tab_eq⟩ (fns_nil _) mixed Try.func64 (by kernel_rfl) (by kernel_rfl) (fun x => by kernel_rfl)

def s_spec_Mod : Sig := { params := [.val false y3, .val false y3], res := [.val false y3] }
noncomputable def e_spec_Mod : Entry := ⟨s_spec_Mod, fun a => D.spec_Mod a.1 a.2⟩
noncomputable def v_spec_Mod : Env := { ti := look tab, Γ := fns [(64, [], e_spec_l1In)], loop := fun _ => none, cut := fun _ => none, deep := fun _ => false }
theorem c_spec_Mod : Contract Try.prog 100 e_spec_Mod.sig e_spec_Mod.F :=
  den_is (E := v_spec_Mod) ⟨tab_ti, tab_eq⟩ (fns_cons c_spec_l1In (fns_nil _)) mixed Try.func100 (by kernel_rfl) (by kernel_rfl) (fun x => by kernel_rfl)

def s_spec_Hash : Sig := { params := [.val false y30], res := [.val false y3] }
noncomputable def e_spec_Hash : Entry := ⟨s_spec_Hash, fun a => D.spec_Hash a⟩
noncomputable def v_spec_Hash : Env := { ti := look tab, Γ := fns [(100, [], e_spec_Mod)], loop := fun b => match b with | 0 => some [.slot 3 (.int .i64), .slot 4 (.int .i64)] | _ => none, cut := fun _ => none, deep := fun _ => false }
theorem c_spec_Hash : Contract Try.prog 93 e_spec_Hash.sig e_spec_Hash.F :=
  den_is (E := v_spec_Hash) ⟨tab_ti, tab_eq⟩ (fns_cons c_spec_Mod (fns_nil _)) mixed Try.func93 (by kernel_rfl) (by kernel_rfl) (fun x => by kernel_rfl)

def s_spec_AreLeaves : Sig := { params := [.val false y32], res := [.val false y4] }
noncomputable def e_spec_AreLeaves : Entry := ⟨s_spec_AreLeaves, fun a => D.spec_AreLeaves a⟩
noncomputable def v_spec_AreLeaves : Env := { ti := look tab, Γ := fns [(64, [], e_spec_l1In), (93, [], e_spec_Hash)], loop := fun b => match b with | 0 => some [.slot 3 (.int .i64)] | _ => none, cut := fun _ => none, deep := fun _ => false }
theorem c_spec_AreLeaves : Contract Try.prog 85 e_spec_AreLeaves.sig e_spec_AreLeaves.F :=
  den_is (E := v_spec_AreLeaves) ⟨tab_ti, tab_eq⟩ (fns_cons c_spec_l1In (fns_cons c_spec_Hash (fns_nil _))) mixed Try.func85 (by kernel_rfl) (by kernel_rfl) (fun x => by kernel_rfl)

def s_spec_l22Seals : Sig := { params := [.val false y32], res := [.row 3 y3 false] }
noncomputable def e_spec_l22Seals : Entry := ⟨s_spec_l22Seals, fun a => D.spec_l22Seals a⟩
noncomputable def v_spec_l22Seals : Env := { ti := look tab, Γ := fns [], loop := fun b => match b with | 0 => some [.slot 3 (.own 3 y3 false), .slot 4 (.int .i64)] | _ => none, cut := fun _ => none, deep := fun _ => false }
theorem c_spec_l22Seals : Contract Try.prog 86 e_spec_l22Seals.sig e_spec_l22Seals.F :=
  den_is (E := v_spec_l22Seals) ⟨tab_ti, tab_eq⟩ (fns_nil _) mixed Try.func86 (by kernel_rfl) (by kernel_rfl) (fun x => by kernel_rfl)

def s_spec_EqualInts : Sig := { params := [.val false y30, .val false y30], res := [.val false y4] }
noncomputable def e_spec_EqualInts : Entry := ⟨s_spec_EqualInts, fun a => D.spec_EqualInts a.1 a.2⟩
noncomputable def v_spec_EqualInts : Env := { ti := look tab, Γ := fns [], loop := fun b => match b with | 0 => some [.slot 5 (.int .i64)] | _ => none, cut := fun _ => none, deep := fun _ => false }
theorem c_spec_EqualInts : Contract Try.prog 68 e_spec_EqualInts.sig e_spec_EqualInts.F :=
  den_is (E := v_spec_EqualInts) ⟨tab_ti, tab_eq⟩ (fns_nil _) mixed Try.func68 (by kernel_rfl) (by kernel_rfl) (fun x => by kernel_rfl)

def s_spec_IsRedactionOf : Sig := { params := [.val false y32, .val false y32], res := [.val false y4] }
noncomputable def e_spec_IsRedactionOf : Entry := ⟨s_spec_IsRedactionOf, fun a => D.spec_IsRedactionOf a.1 a.2⟩
noncomputable def v_spec_IsRedactionOf : Env := { ti := look tab, Γ := fns [(85, [], e_spec_AreLeaves), (86, [], e_spec_l22Seals), (68, [], e_spec_EqualInts)], loop := fun b => match b with | 0 => some [.slot 5 (.int .i64)] | _ => none, cut := fun _ => none, deep := fun _ => false }
theorem c_spec_IsRedactionOf : Contract Try.prog 51 e_spec_IsRedactionOf.sig e_spec_IsRedactionOf.F :=
  den_is (E := v_spec_IsRedactionOf) ⟨tab_ti, tab_eq⟩ (fns_cons c_spec_AreLeaves (fns_cons c_spec_l22Seals (fns_cons c_spec_EqualInts (fns_nil _)))) mixed Try.func51 (by kernel_rfl) (by kernel_rfl) (fun x => by kernel_rfl)

def s_impl_InRange : Sig := { params := [.val false y3, .val false y3, .val false y3], res := [.val false y4] }
noncomputable def e_impl_InRange : Entry := ⟨s_impl_InRange, fun a => D.impl_InRange a.1 a.2.1 a.2.2⟩
noncomputable def v_impl_InRange : Env := { ti := look tab, Γ := fns [], loop := fun _ => none, cut := fun _ => none, deep := fun _ => false }
theorem c_impl_InRange : Contract Try.prog 95 e_impl_InRange.sig e_impl_InRange.F :=
  den_is (E := v_impl_InRange) ⟨tab_ti, tab_eq⟩ (fns_nil _) mixed Try.func95 (by kernel_rfl) (by kernel_rfl) (fun x => by kernel_rfl)

def s_impl_Mod : Sig := { params := [.val false y3, .val false y3], res := [.val false y3] }
noncomputable def e_impl_Mod : Entry := ⟨s_impl_Mod, fun a => D.impl_Mod a.1 a.2⟩
noncomputable def v_impl_Mod : Env := { ti := look tab, Γ := fns [(95, [], e_impl_InRange)], loop := fun _ => none, cut := fun _ => none, deep := fun _ => false }
theorem c_impl_Mod : Contract Try.prog 111 e_impl_Mod.sig e_impl_Mod.F :=
  den_is (E := v_impl_Mod) ⟨tab_ti, tab_eq⟩ (fns_cons c_impl_InRange (fns_nil _)) mixed Try.func111 (by kernel_rfl) (by kernel_rfl) (fun x => by kernel_rfl)

def s_impl_Hash : Sig := { params := [.val false y30], res := [.val false y3] }
noncomputable def e_impl_Hash : Entry := ⟨s_impl_Hash, fun a => D.impl_Hash a⟩
noncomputable def v_impl_Hash : Env := { ti := look tab, Γ := fns [(111, [], e_impl_Mod)], loop := fun b => match b with | 0 => some [.slot 3 (.int .i64), .slot 8 (.int .i64)] | _ => none, cut := fun _ => none, deep := fun _ => false }
theorem c_impl_Hash : Contract Try.prog 96 e_impl_Hash.sig e_impl_Hash.F :=
  den_is (E := v_impl_Hash) ⟨tab_ti, tab_eq⟩ (fns_cons c_impl_Mod (fns_nil _)) mixed Try.func96 (by kernel_rfl) (by kernel_rfl) (fun x => by kernel_rfl)

def s_impl_AreLeaves_1 : Sig := { params := [.val true y85], res := [.val false y4] }
noncomputable def e_impl_AreLeaves_1 : Entry := ⟨s_impl_AreLeaves_1, fun a => D.impl_AreLeaves_1 a⟩
noncomputable def v_impl_AreLeaves_1 : Env := { ti := look tab, Γ := fns [(95, [], e_impl_InRange), (96, [], e_impl_Hash)], loop := fun _ => none, cut := fun _ => none, deep := fun _ => false }
theorem c_impl_AreLeaves_1 : Contract Try.prog 109 e_impl_AreLeaves_1.sig e_impl_AreLeaves_1.F :=
  den_is (E := v_impl_AreLeaves_1) ⟨tab_ti, tab_eq⟩ (fns_cons c_impl_InRange (fns_cons c_impl_Hash (fns_nil _))) mixed Try.func109 (by kernel_rfl) (by kernel_rfl) (fun x => by kernel_rfl)

def s_slices_IndexFunc_Leaf_impl_AreLeaves_1 : Sig := { params := [.val false y32, .fn 109 []], res := [.val false y3] }
noncomputable def e_slices_IndexFunc_Leaf_impl_AreLeaves_1 : Entry := ⟨s_slices_IndexFunc_Leaf_impl_AreLeaves_1, fun a => D.slices_IndexFunc_Leaf_impl_AreLeaves_1 a.1⟩
noncomputable def v_slices_IndexFunc_Leaf_impl_AreLeaves_1 : Env := { ti := look tab, Γ := fns [(109, [], e_impl_AreLeaves_1)], loop := fun b => match b with | 0 => some [.slot 8 (.int .i64)] | _ => none, cut := fun _ => none, deep := fun _ => false }
theorem c_slices_IndexFunc_Leaf_impl_AreLeaves_1 : Contract Try.prog 114 e_slices_IndexFunc_Leaf_impl_AreLeaves_1.sig e_slices_IndexFunc_Leaf_impl_AreLeaves_1.F :=
  den_is (E := v_slices_IndexFunc_Leaf_impl_AreLeaves_1) ⟨tab_ti, tab_eq⟩ (fns_cons c_impl_AreLeaves_1 (fns_nil _)) mixed Try.func114 (by kernel_rfl) (by kernel_rfl) (fun x => by kernel_rfl)

def s_slices_ContainsFunc_Leaf_impl_AreLeaves_1 : Sig := { params := [.val false y32, .fn 109 []], res := [.val false y4] }
noncomputable def e_slices_ContainsFunc_Leaf_impl_AreLeaves_1 : Entry := ⟨s_slices_ContainsFunc_Leaf_impl_AreLeaves_1, fun a => D.slices_ContainsFunc_Leaf_impl_AreLeaves_1 a.1⟩
noncomputable def v_slices_ContainsFunc_Leaf_impl_AreLeaves_1 : Env := { ti := look tab, Γ := fns [(114, [109], e_slices_IndexFunc_Leaf_impl_AreLeaves_1)], loop := fun _ => none, cut := fun _ => none, deep := fun _ => false }
theorem c_slices_ContainsFunc_Leaf_impl_AreLeaves_1 : Contract Try.prog 108 e_slices_ContainsFunc_Leaf_impl_AreLeaves_1.sig e_slices_ContainsFunc_Leaf_impl_AreLeaves_1.F :=
  den_is (E := v_slices_ContainsFunc_Leaf_impl_AreLeaves_1) ⟨tab_ti, tab_eq⟩ (fns_cons c_slices_IndexFunc_Leaf_impl_AreLeaves_1 (fns_nil _)) mixed Try.func108 (by kernel_rfl) (by kernel_rfl) (fun x => by kernel_rfl)

def s_impl_AreLeaves : Sig := { params := [.val false y32], res := [.val false y4] }
noncomputable def e_impl_AreLeaves : Entry := ⟨s_impl_AreLeaves, fun a => D.impl_AreLeaves a⟩
noncomputable def v_impl_AreLeaves : Env := { ti := look tab, Γ := fns [(108, [109], e_slices_ContainsFunc_Leaf_impl_AreLeaves_1)], loop := fun _ => none, cut := fun _ => none, deep := fun _ => false }
theorem c_impl_AreLeaves : Contract Try.prog 87 e_impl_AreLeaves.sig e_impl_AreLeaves.F :=
  den_is (E := v_impl_AreLeaves) ⟨tab_ti, tab_eq⟩ (fns_cons c_slices_ContainsFunc_Leaf_impl_AreLeaves_1 (fns_nil _)) mixed Try.func87 (by kernel_rfl) (by kernel_rfl) (fun x => by kernel_rfl)

def s_impl_IsRedactionOf_1 : Sig := { params := [.val true y85, .val true y85], res := [.val false y4] }
noncomputable def e_impl_IsRedactionOf_1 : Entry := ⟨s_impl_IsRedactionOf_1, fun a => D.impl_IsRedactionOf_1 a.1 a.2⟩
noncomputable def v_impl_IsRedactionOf_1 : Env := { ti := look tab, Γ := fns [], loop := fun _ => none, cut := fun _ => none, deep := fun _ => false }
theorem c_impl_IsRedactionOf_1 : Contract Try.prog 89 e_impl_IsRedactionOf_1.sig e_impl_IsRedactionOf_1.F :=
  den_is (E := v_impl_IsRedactionOf_1) ⟨tab_ti, tab_eq⟩ (fns_nil _) mixed Try.func89 (by kernel_rfl) (by kernel_rfl) (fun x => by kernel_rfl)

def s_slices_EqualFunc_Leaf_impl_IsRedactionOf_1 : Sig := { params := [.val false y32, .val false y32, .fn 89 []], res := [.val false y4] }
noncomputable def e_slices_EqualFunc_Leaf_impl_IsRedactionOf_1 : Entry := ⟨s_slices_EqualFunc_Leaf_impl_IsRedactionOf_1, fun a => D.slices_EqualFunc_Leaf_impl_IsRedactionOf_1 a.1 a.2.1⟩
noncomputable def v_slices_EqualFunc_Leaf_impl_IsRedactionOf_1 : Env := { ti := look tab, Γ := fns [(89, [], e_impl_IsRedactionOf_1)], loop := fun b => match b with | 0 => some [.slot 17 (.int .i64)] | _ => none, cut := fun _ => none, deep := fun _ => false }
theorem c_slices_EqualFunc_Leaf_impl_IsRedactionOf_1 : Contract Try.prog 88 e_slices_EqualFunc_Leaf_impl_IsRedactionOf_1.sig e_slices_EqualFunc_Leaf_impl_IsRedactionOf_1.F :=
  den_is (E := v_slices_EqualFunc_Leaf_impl_IsRedactionOf_1) ⟨tab_ti, tab_eq⟩ (fns_cons c_impl_IsRedactionOf_1 (fns_nil _)) mixed Try.func88 (by kernel_rfl) (by kernel_rfl) (fun x => by kernel_rfl)

def s_impl_IsRedactionOf : Sig := { params := [.val false y32, .val false y32], res := [.val false y4] }
noncomputable def e_impl_IsRedactionOf : Entry := ⟨s_impl_IsRedactionOf, fun a => D.impl_IsRedactionOf a.1 a.2⟩
noncomputable def v_impl_IsRedactionOf : Env := { ti := look tab, Γ := fns [(87, [], e_impl_AreLeaves), (88, [89], e_slices_EqualFunc_Leaf_impl_IsRedactionOf_1)], loop := fun _ => none, cut := fun _ => none, deep := fun _ => false }
theorem c_impl_IsRedactionOf : Contract Try.prog 52 e_impl_IsRedactionOf.sig e_impl_IsRedactionOf.F :=
  den_is (E := v_impl_IsRedactionOf) ⟨tab_ti, tab_eq⟩ (fns_cons c_impl_AreLeaves (fns_cons c_slices_EqualFunc_Leaf_impl_IsRedactionOf_1 (fns_nil _))) mixed Try.func52 (by kernel_rfl) (by kernel_rfl) (fun x => by kernel_rfl)

def s_laws_eqLeaf : Sig := { params := [.val true y85, .val true y85], res := [.val false y4] }
noncomputable def e_laws_eqLeaf : Entry := ⟨s_laws_eqLeaf, fun a => D.laws_eqLeaf a.1 a.2⟩
noncomputable def v_laws_eqLeaf : Env := { ti := look tab, Γ := fns [], loop := fun _ => none, cut := fun _ => none, deep := fun _ => false }
theorem c_laws_eqLeaf : Contract Try.prog 67 e_laws_eqLeaf.sig e_laws_eqLeaf.F :=
  den_is (E := v_laws_eqLeaf) ⟨tab_ti, tab_eq⟩ (fns_nil _) mixed Try.func67 (by kernel_rfl) (by kernel_rfl) (fun x => by kernel_rfl)

def s_laws_eqLeafS : Sig := { params := [.val false y32, .val false y32], res := [.val false y4] }
noncomputable def e_laws_eqLeafS : Entry := ⟨s_laws_eqLeafS, fun a => D.laws_eqLeafS a.1 a.2⟩
noncomputable def v_laws_eqLeafS : Env := { ti := look tab, Γ := fns [(67, [], e_laws_eqLeaf)], loop := fun b => match b with | 0 => some [.slot 5 (.int .i64)] | _ => none, cut := fun _ => none, deep := fun _ => false }
theorem c_laws_eqLeafS : Contract Try.prog 23 e_laws_eqLeafS.sig e_laws_eqLeafS.F :=
  den_is (E := v_laws_eqLeafS) ⟨tab_ti, tab_eq⟩ (fns_cons c_laws_eqLeaf (fns_nil _)) mixed Try.func23 (by kernel_rfl) (by kernel_rfl) (fun x => by kernel_rfl)

def s_laws_FnExactIsRedactionOf : Sig := { params := [.val false y29, .val false y29], res := [.val false y4] }
noncomputable def e_laws_FnExactIsRedactionOf : Entry := ⟨s_laws_FnExactIsRedactionOf, fun a => D.laws_FnExactIsRedactionOf a.1 a.2⟩
noncomputable def v_laws_FnExactIsRedactionOf : Env := { ti := look tab, Γ := fns [(18, [], e_laws_szLeafS), (20, [], e_laws_toLeafS), (51, [], e_spec_IsRedactionOf), (52, [], e_impl_IsRedactionOf), (23, [], e_laws_eqLeafS)], loop := fun _ => none, cut := fun _ => none, deep := fun _ => false }
theorem c_laws_FnExactIsRedactionOf : Contract Try.prog 10 e_laws_FnExactIsRedactionOf.sig e_laws_FnExactIsRedactionOf.F :=
  den_is (E := v_laws_FnExactIsRedactionOf) ⟨tab_ti, tab_eq⟩ (fns_cons c_laws_szLeafS (fns_cons c_laws_toLeafS (fns_cons c_spec_IsRedactionOf (fns_cons c_impl_IsRedactionOf (fns_cons c_laws_eqLeafS (fns_nil _)))))) mixed Try.func10 (by kernel_rfl) (by kernel_rfl) (fun x => by kernel_rfl)

theorem law_true (a : Tup (s_laws_FnExactIsRedactionOf.params.map PTy.den)) (hok : argsOk Try.prog s_laws_FnExactIsRedactionOf.params a) : D.laws_FnExactIsRedactionOf a.1 a.2 = some true := D.FnExactIsRedactionOf_true a.1 a.2 (Ty.ok_bd (P := Try.prog) (t := y29) (by kernel_rfl) hok.1) (Ty.ok_bd (P := Try.prog) (t := y29) (by kernel_rfl) hok.2.1)
theorem lifted (os : Os) (started : os.Started) (H : Type) (enc : TypeId × Value → H) :
    ReturnsInHanded {} Try.checked os 10 .any (Rows.fnExactIsRedactionOfSpec.pre6 enc Try.prog Try.f10 Rows.fnExactIsRedactionOfRow.domain false) (Rows.fnExactIsRedactionOfSpec.post enc Try.prog Try.f10 false true false false) := by
  refine returnsInHanded_of_change_sized (C := Try.checked) (by kernel_rfl) started (by kernel_rfl) Try.func10
    (ChangeSpec.witness6 (enc := enc) (C := Try.checked) false ⟨#[], #[.slice none 0 0, .slice none 0 0], []⟩ 8 (by kernel_rfl) (by kernel_rfl) (by kernel_rfl) (by kernel_rfl)) ?_
  intro W base args ds gs before hval hW hcnd hsz _
  exact law_row (C := Try.checked) rfl c_laws_FnExactIsRedactionOf (N := 8) (by kernel_rfl) (tb := 4) (by kernel_rfl) (by kernel_rfl) (by kernel_rfl) (by kernel_rfl) rfl
    (fun ds h => by
      have h : ds.length = 2 := h
      match ds, h with
      | [d0, d1], _ => rfl)
    bulky_sizeOf (small := fun _ => True) (fun a ds hok _ _ => ⟨_, law_true a hok, rfl⟩) hval hW hsz trivial

theorem over : Rows.fnExactIsRedactionOfRow.holds Try.pinned (OpenSpec.ofChange Rows.fnExactIsRedactionOfSpec) :=
  OpenClaim.holds_of_wide 10 Try.f10 rfl rfl rfl rfl rfl rfl rfl ⟨rfl, rfl, rfl, rfl, rfl⟩ rfl rfl rfl rfl rfl (by kernel_rfl) Try.func10 (by kernel_rfl)
    (of_decide_eq_true (by kernel_rfl)) (by unfold Func.isWrapper; first | (rw [if_pos (by decide +kernel)]; kernel_rfl) | (rw [if_neg (by decide +kernel)]; exact ⟨rfl, rfl⟩))
    (fun os started H enc _ => lifted os started H enc)
end Go.Proofs.Ytkcdbncblmbekaa.SxFnExactIsRedactionOf
namespace Go.Proofs.Ytkcdbncblmbekaa
theorem fnExactIsRedactionOf_holds : Rows.FnExactIsRedactionOfSaid := SxFnExactIsRedactionOf.over
end Go.Proofs.Ytkcdbncblmbekaa
