/- FnProven returns true for every input, and each input reads as it did. No condition. -/
import Derived.Test.YtekclbjiifiahaaRows
import Derived.Test.YtekclbjiifiahaaPuFnProven
import Derived.Test.YtekclbjiifiahaaEx
import Derived.WalkKit
import Derived.ProofKit
import Derived.ShutString
import Derived.SizedLaws
set_option linter.unusedVariables false
set_option maxRecDepth 100000
set_option maxHeartbeats 4000000
namespace Go.Proofs.Ytekclbjiifiahaa.SxFnProven
open Go Go.Sh Go.RowKit
instance laid0 : Laid := ⟨fun _ => True, fun _ => False, fun _ _ _ h => h.elim, fun _ _ _ _ => trivial⟩
def y3 : Ty := .int .i64
def y4 : Ty := .bool
def y5 : Ty := .int .u8
def y22 : Ty := .slice 3 y3
def y38 : Ty := .pair y3 (.pair y3 (.pair y3 y3))
def y27 : Ty := .slice 38 y38
def y32 : Ty := .slice 5 y5
def y77 : Ty := .int .u64
def y81 : Ty := .pair y32 (.pair y3 y3)
def y93 : Ty := .int .u32
def y95 : Ty := .int .u64
def tab : List (TypeId × TI) := [(3, { size := 1, bytes := 8, agg := false, ty := some y3 }),
  (4, { size := 1, bytes := 1, agg := false, ty := some y4 }),
  (5, { size := 1, bytes := 1, agg := false, ty := some y5 }),
  (22, { size := 1, bytes := 24, agg := false, ty := some y22, elem := some 3 }),
  (38, { size := 4, bytes := 32, agg := true, ty := some y38, fields := [(0, 3), (1, 3), (2, 3), (3, 3)], eq := true }),
  (27, { size := 1, bytes := 24, agg := false, ty := some y27, elem := some 38 }),
  (32, { size := 1, bytes := 24, agg := false, ty := some y32, elem := some 5 }),
  (77, { size := 1, bytes := 8, agg := false, ty := some y77 }),
  (81, { size := 3, bytes := 40, agg := true, ty := some y81, fields := [(0, 32), (1, 3), (2, 3)] }),
  (93, { size := 1, bytes := 4, agg := false, ty := some y93 }),
  (95, { size := 1, bytes := 8, agg := false, ty := some y95 })]
def look : List (TypeId × TI) → TypeId → Option TI
  | [], _ => none
  | (k, i) :: r, t => if Nat.beq t k = true then some i else look r t
theorem look_ok {P : Program} : ∀ {l : List (TypeId × TI)}, (l.all fun p => tiOk P p.1 p.2) = true → ∀ t i, look l t = some i → tiOk P t i = true
  | [], _, t, i, h => by simp [look] at h
  | (k, j) :: r, h0, t, i, h => by
    simp only [List.all_cons, Bool.and_eq_true] at h0
    simp only [look] at h
    split at h
    · rename_i hk
      simp only [Option.some.injEq] at h
      have := Nat.eq_of_beq_eq_true hk
      subst this; subst h; exact h0.1
    · exact look_ok h0.2 t i h
theorem look_eq {P : Program} : ∀ {l : List (TypeId × TI)}, (l.all fun p => !p.2.eq || eqTop P p.1 p.2.ty) = true → ∀ t i, look l t = some i → i.eq = true → ∀ ty, i.ty = some ty → EqLaw P t ty.zero
  | [], _, t, i, h => by simp [look] at h
  | (k, j) :: r, h0, t, i, h => by
    simp only [List.all_cons, Bool.and_eq_true, Bool.or_eq_true, Bool.not_eq_true'] at h0
    simp only [look] at h
    split at h
    · rename_i hk
      simp only [Option.some.injEq] at h
      have := Nat.eq_of_beq_eq_true hk
      subst this; subst h
      intro he
      exact eqLaw_of (h0.1.resolve_left (by simp [he]))
    · exact look_eq h0.2 t i h
def same : List Nat → List Nat → Bool
  | [], [] => true
  | a :: x, b :: y => Nat.beq a b && same x y
  | _, _ => false
theorem same_eq : ∀ {x y : List Nat}, same x y = true → x = y
  | [], [], _ => rfl
  | a :: x, b :: y, h => by
    simp only [same, Bool.and_eq_true] at h
    rw [Nat.eq_of_beq_eq_true h.1, same_eq h.2]
  | [], _ :: _, h => by simp [same] at h
  | _ :: _, [], h => by simp [same] at h
def fns : List (FuncId × List FuncId × Entry) → FuncId → List FuncId → Option Entry
  | [], _, _ => none
  | (k, c, e) :: r, f, fs => if (Nat.beq f k && same fs c) = true then some e else fns r f fs
theorem fns_nil (P : Program) : ∀ f fs en, fns [] f fs = some en → Contract P f en.sig en.F := fun f fs en h => by simp [fns] at h
theorem fns_cons {P : Program} {k : FuncId} {c : List FuncId} {e : Entry} {r : List (FuncId × List FuncId × Entry)} (hk : Contract P k e.sig e.F) (hr : ∀ f fs en, fns r f fs = some en → Contract P f en.sig en.F) : ∀ f fs en, fns ((k, c, e) :: r) f fs = some en → Contract P f en.sig en.F := fun f fs en h => by
  simp only [fns] at h
  split at h
  · rename_i hf
    simp only [Bool.and_eq_true] at hf
    simp only [Option.some.injEq] at h
    have := Nat.eq_of_beq_eq_true hf.1
    subst this; subst h; exact hk
  · exact hr f fs en h

theorem tab_ti : ∀ t i, look tab t = some i → tiOk Try.prog t i = true := look_ok (by kernel_rfl)
theorem tab_eq : ∀ t i, look tab t = some i → i.eq = true → ∀ ty, i.ty = some ty → EqLaw Try.prog t ty.zero := look_eq (by kernel_rfl)
theorem mixed : Try.prog.follows .mixedOrders = true := by kernel_rfl
def s_laws_big : Sig := { params := [.val false y32], res := [.val false y4] }
noncomputable def e_laws_big : Entry := ⟨s_laws_big, fun a => D.laws_big a⟩
noncomputable def v_laws_big : Env := { ti := look tab, Γ := fns [], loop := fun _ => none, cut := fun _ => none, deep := fun _ => false }
theorem c_laws_big : Contract Try.prog 16 e_laws_big.sig e_laws_big.F :=
  den_is (E := v_laws_big) ⟨tab_ti, tab_eq⟩ (fns_nil _) mixed Try.func16 (by kernel_rfl) (by kernel_rfl) (fun x => by kernel_rfl)

def s_spec_l1New : Sig := { params := [.val false y32], res := [.ptr y81] }
noncomputable def e_spec_l1New : Entry := ⟨s_spec_l1New, fun a => D.spec_l1New a⟩
noncomputable def v_spec_l1New : Env := { ti := look tab, Γ := fns [], loop := fun b => match b with | 0 => some [.slot 3 (.int .i64), .slot 4 (.int .i64)] | _ => none, cut := fun _ => none, deep := fun _ => false }
theorem c_spec_l1New : Contract Try.prog 44 e_spec_l1New.sig e_spec_l1New.F :=
  den_is (E := v_spec_l1New) ⟨tab_ti, tab_eq⟩ (fns_nil _) mixed Try.func44 (by kernel_rfl) (by kernel_rfl) (fun x => by kernel_rfl)

def s_spec_l1Byte : Sig := { params := [.ioptr y81], res := [.val false y3] }
noncomputable def e_spec_l1Byte : Entry := ⟨s_spec_l1Byte, fun a => D.spec_l1Byte a⟩
noncomputable def v_spec_l1Byte : Env := { ti := look tab, Γ := fns [], loop := fun _ => none, cut := fun _ => none, deep := fun _ => false }
theorem c_spec_l1Byte : Contract Try.prog 80 e_spec_l1Byte.sig e_spec_l1Byte.F :=
  den_is (E := v_spec_l1Byte) ⟨tab_ti, tab_eq⟩ (fns_nil _) mixed Try.func80 (by kernel_rfl) (by kernel_rfl) (fun x => by kernel_rfl)

def s_spec_l1Below : Sig := { params := [.ioptr y81, .val false y3], res := [.val false y3] }
noncomputable def e_spec_l1Below : Entry := ⟨s_spec_l1Below, fun a => D.spec_l1Below a.1 a.2⟩
noncomputable def v_spec_l1Below : Env := { ti := look tab, Γ := fns [(80, [], e_spec_l1Byte)], loop := fun _ => none, cut := fun _ => none, deep := fun _ => false }
theorem c_spec_l1Below : Contract Try.prog 59 e_spec_l1Below.sig e_spec_l1Below.F :=
  den_is (E := v_spec_l1Below) ⟨tab_ti, tab_eq⟩ (fns_cons c_spec_l1Byte (fns_nil _)) mixed Try.func59 (by kernel_rfl) (by kernel_rfl) (fun x => by kernel_rfl)

def s_spec_l26Keys : Sig := { params := [.ioptr y81], res := [.val false y22] }
noncomputable def e_spec_l26Keys : Entry := ⟨s_spec_l26Keys, fun a => D.spec_l26Keys a⟩
noncomputable def v_spec_l26Keys : Env := { ti := look tab, Γ := fns [(59, [], e_spec_l1Below)], loop := fun b => match b with | 0 => some [.slot 3 (.own 3 y3 false), .slot 4 (.int .i64)] | _ => none, cut := fun _ => none, deep := fun _ => false }
theorem c_spec_l26Keys : Contract Try.prog 49 e_spec_l26Keys.sig e_spec_l26Keys.F :=
  den_is (E := v_spec_l26Keys) ⟨tab_ti, tab_eq⟩ (fns_cons c_spec_l1Below (fns_nil _)) mixed Try.func49 (by kernel_rfl) (by kernel_rfl) (fun x => by kernel_rfl)

def s_spec_l1In : Sig := { params := [.val false y3, .val false y3, .val false y3], res := [.val false y4] }
noncomputable def e_spec_l1In : Entry := ⟨s_spec_l1In, fun a => D.spec_l1In a.1 a.2.1 a.2.2⟩
noncomputable def v_spec_l1In : Env := { ti := look tab, Γ := fns [], loop := fun _ => none, cut := fun _ => none, deep := fun _ => false }
theorem c_spec_l1In : Contract Try.prog 36 e_spec_l1In.sig e_spec_l1In.F :=
  den_is (E := v_spec_l1In) ⟨tab_ti, tab_eq⟩ (fns_nil _) mixed Try.func36 (by kernel_rfl) (by kernel_rfl) (fun x => by kernel_rfl)

def s_spec_IsValidKey : Sig := { params := [.val false y3], res := [.val false y4] }
noncomputable def e_spec_IsValidKey : Entry := ⟨s_spec_IsValidKey, fun a => D.spec_IsValidKey a⟩
noncomputable def v_spec_IsValidKey : Env := { ti := look tab, Γ := fns [(36, [], e_spec_l1In)], loop := fun _ => none, cut := fun _ => none, deep := fun _ => false }
theorem c_spec_IsValidKey : Contract Try.prog 82 e_spec_IsValidKey.sig e_spec_IsValidKey.F :=
  den_is (E := v_spec_IsValidKey) ⟨tab_ti, tab_eq⟩ (fns_cons c_spec_l1In (fns_nil _)) mixed Try.func82 (by kernel_rfl) (by kernel_rfl) (fun x => by kernel_rfl)

def s_spec_Mod : Sig := { params := [.val false y3, .val false y3], res := [.val false y3] }
noncomputable def e_spec_Mod : Entry := ⟨s_spec_Mod, fun a => D.spec_Mod a.1 a.2⟩
noncomputable def v_spec_Mod : Env := { ti := look tab, Γ := fns [(36, [], e_spec_l1In)], loop := fun _ => none, cut := fun _ => none, deep := fun _ => false }
theorem c_spec_Mod : Contract Try.prog 97 e_spec_Mod.sig e_spec_Mod.F :=
  den_is (E := v_spec_Mod) ⟨tab_ti, tab_eq⟩ (fns_cons c_spec_l1In (fns_nil _)) mixed Try.func97 (by kernel_rfl) (by kernel_rfl) (fun x => by kernel_rfl)

def s_spec_Hash : Sig := { params := [.val false y22], res := [.val false y3] }
noncomputable def e_spec_Hash : Entry := ⟨s_spec_Hash, fun a => D.spec_Hash a⟩
noncomputable def v_spec_Hash : Env := { ti := look tab, Γ := fns [(97, [], e_spec_Mod)], loop := fun b => match b with | 0 => some [.slot 3 (.int .i64), .slot 4 (.int .i64)] | _ => none, cut := fun _ => none, deep := fun _ => false }
theorem c_spec_Hash : Contract Try.prog 98 e_spec_Hash.sig e_spec_Hash.F :=
  den_is (E := v_spec_Hash) ⟨tab_ti, tab_eq⟩ (fns_cons c_spec_Mod (fns_nil _)) mixed Try.func98 (by kernel_rfl) (by kernel_rfl) (fun x => by kernel_rfl)

def s_spec_KeyedHash : Sig := { params := [.val false y3, .val false y22], res := [.val false y3] }
noncomputable def e_spec_KeyedHash : Entry := ⟨s_spec_KeyedHash, fun a => D.spec_KeyedHash a.1 a.2⟩
noncomputable def v_spec_KeyedHash : Env := { ti := look tab, Γ := fns [(98, [], e_spec_Hash)], loop := fun _ => none, cut := fun _ => none, deep := fun _ => false }
theorem c_spec_KeyedHash : Contract Try.prog 96 e_spec_KeyedHash.sig e_spec_KeyedHash.F :=
  den_is (E := v_spec_KeyedHash) ⟨tab_ti, tab_eq⟩ (fns_cons c_spec_Hash (fns_nil _)) mixed Try.func96 (by kernel_rfl) (by kernel_rfl) (fun x => by kernel_rfl)

def s_spec_SealStatement : Sig := { params := [.val false y3, .val true y38], res := [.val true y38] }
noncomputable def e_spec_SealStatement : Entry := ⟨s_spec_SealStatement, fun a => D.spec_SealStatement a.1 a.2⟩
noncomputable def v_spec_SealStatement : Env := { ti := look tab, Γ := fns [(82, [], e_spec_IsValidKey), (96, [], e_spec_KeyedHash)], loop := fun _ => none, cut := fun _ => none, deep := fun _ => false }
theorem c_spec_SealStatement : Contract Try.prog 73 e_spec_SealStatement.sig e_spec_SealStatement.F :=
  den_is (E := v_spec_SealStatement) ⟨tab_ti, tab_eq⟩ (fns_cons c_spec_IsValidKey (fns_cons c_spec_KeyedHash (fns_nil _))) mixed Try.func73 (by kernel_rfl) (by kernel_rfl) (fun x => by kernel_rfl)

def s_spec_l1Int : Sig := { params := [.ioptr y81, .val false y22], res := [.val false y3] }
noncomputable def e_spec_l1Int : Entry := ⟨s_spec_l1Int, fun a => D.spec_l1Int a.1 a.2⟩
noncomputable def v_spec_l1Int : Env := { ti := look tab, Γ := fns [(59, [], e_spec_l1Below)], loop := fun _ => none, cut := fun _ => none, deep := fun _ => false }
theorem c_spec_l1Int : Contract Try.prog 45 e_spec_l1Int.sig e_spec_l1Int.F :=
  den_is (E := v_spec_l1Int) ⟨tab_ti, tab_eq⟩ (fns_cons c_spec_l1Below (fns_nil _)) mixed Try.func45 (by kernel_rfl) (by kernel_rfl) (fun x => by kernel_rfl)

def s_spec_l4Raw : Sig := { params := [.ioptr y81], res := [.val false y3] }
noncomputable def e_spec_l4Raw : Entry := ⟨s_spec_l4Raw, fun a => D.spec_l4Raw a⟩
noncomputable def v_spec_l4Raw : Env := { ti := look tab, Γ := fns [(45, [], e_spec_l1Int)], loop := fun _ => none, cut := fun _ => none, deep := fun _ => false }
theorem c_spec_l4Raw : Contract Try.prog 74 e_spec_l4Raw.sig e_spec_l4Raw.F :=
  den_is (E := v_spec_l4Raw) ⟨tab_ti, tab_eq⟩ (fns_cons c_spec_l1Int (fns_nil _)) mixed Try.func74 (by kernel_rfl) (by kernel_rfl) (fun x => by kernel_rfl)

def s_spec_l26Draw : Sig := { params := [.ioptr y81, .val false y22], res := [.val true y38] }
noncomputable def e_spec_l26Draw : Entry := ⟨s_spec_l26Draw, fun a => D.spec_l26Draw a.1 a.2⟩
noncomputable def v_spec_l26Draw : Env := { ti := look tab, Γ := fns [(59, [], e_spec_l1Below), (73, [], e_spec_SealStatement), (45, [], e_spec_l1Int), (74, [], e_spec_l4Raw)], loop := fun _ => none, cut := fun _ => none, deep := fun _ => false }
theorem c_spec_l26Draw : Contract Try.prog 50 e_spec_l26Draw.sig e_spec_l26Draw.F :=
  den_is (E := v_spec_l26Draw) ⟨tab_ti, tab_eq⟩ (fns_cons c_spec_l1Below (fns_cons c_spec_SealStatement (fns_cons c_spec_l1Int (fns_cons c_spec_l4Raw (fns_nil _))))) mixed Try.func50 (by kernel_rfl) (by kernel_rfl) (fun x => by kernel_rfl)

def s_spec_l26List : Sig := { params := [.ioptr y81], res := [.val false y22, .row 38 y38 false] }
noncomputable def e_spec_l26List : Entry := ⟨s_spec_l26List, fun a => D.spec_l26List a⟩
noncomputable def v_spec_l26List : Env := { ti := look tab, Γ := fns [(49, [], e_spec_l26Keys), (59, [], e_spec_l1Below), (50, [], e_spec_l26Draw)], loop := fun b => match b with | 0 => some [.slot 5 (.own 38 y38 false), .slot 6 (.int .i64), .box 0 [.ro 5 y5, .int .i64, .int .i64]] | _ => none, cut := fun _ => none, deep := fun _ => false }
theorem c_spec_l26List : Contract Try.prog 71 e_spec_l26List.sig e_spec_l26List.F :=
  den_is (E := v_spec_l26List) ⟨tab_ti, tab_eq⟩ (fns_cons c_spec_l26Keys (fns_cons c_spec_l1Below (fns_cons c_spec_l26Draw (fns_nil _)))) mixed Try.func71 (by kernel_rfl) (by kernel_rfl) (fun x => by kernel_rfl)

def s_spec_DrawFirstSeen : Sig := { params := [.val false y32], res := [.val false y22, .row 38 y38 false, .val false y3] }
noncomputable def e_spec_DrawFirstSeen : Entry := ⟨s_spec_DrawFirstSeen, fun a => D.spec_DrawFirstSeen a⟩
noncomputable def v_spec_DrawFirstSeen : Env := { ti := look tab, Γ := fns [(44, [], e_spec_l1New), (71, [], e_spec_l26List), (59, [], e_spec_l1Below)], loop := fun _ => none, cut := fun _ => none, deep := fun _ => false }
theorem c_spec_DrawFirstSeen : Contract Try.prog 43 e_spec_DrawFirstSeen.sig e_spec_DrawFirstSeen.F :=
  den_is (E := v_spec_DrawFirstSeen) ⟨tab_ti, tab_eq⟩ (fns_cons c_spec_l1New (fns_cons c_spec_l26List (fns_cons c_spec_l1Below (fns_nil _)))) mixed Try.func43 (by kernel_rfl) (by kernel_rfl) (fun x => by kernel_rfl)

def s_spec_DrawProvenBy : Sig := { params := [.val false y32], res := [.val false y22, .row 38 y38 false, .val false y3, .val false y3] }
noncomputable def e_spec_DrawProvenBy : Entry := ⟨s_spec_DrawProvenBy, fun a => D.spec_DrawProvenBy a⟩
noncomputable def v_spec_DrawProvenBy : Env := { ti := look tab, Γ := fns [(43, [], e_spec_DrawFirstSeen), (44, [], e_spec_l1New), (45, [], e_spec_l1Int)], loop := fun _ => none, cut := fun _ => none, deep := fun _ => false }
theorem c_spec_DrawProvenBy : Contract Try.prog 17 e_spec_DrawProvenBy.sig e_spec_DrawProvenBy.F :=
  den_is (E := v_spec_DrawProvenBy) ⟨tab_ti, tab_eq⟩ (fns_cons c_spec_DrawFirstSeen (fns_cons c_spec_l1New (fns_cons c_spec_l1Int (fns_nil _)))) mixed Try.func17 (by kernel_rfl) (by kernel_rfl) (fun x => by kernel_rfl)

def s_bits_Mul64 : Sig := { params := [.val false y95, .val false y95], res := [.val false y95, .val false y95] }
noncomputable def e_bits_Mul64 : Entry := ⟨s_bits_Mul64, fun a => D.bits_Mul64 a.1 a.2⟩
noncomputable def v_bits_Mul64 : Env := { ti := look tab, Γ := fns [], loop := fun _ => none, cut := fun _ => none, deep := fun _ => false }
theorem c_bits_Mul64 : Contract Try.prog 95 e_bits_Mul64.sig e_bits_Mul64.F :=
  den_is (E := v_bits_Mul64) ⟨tab_ti, tab_eq⟩ (fns_nil _) mixed Try.func95 (by kernel_rfl) (by kernel_rfl) (fun x => by kernel_rfl)

def s_bits_Mul : Sig := { params := [.val false y77, .val false y77], res := [.val false y77, .val false y77] }
noncomputable def e_bits_Mul : Entry := ⟨s_bits_Mul, fun a => D.bits_Mul a.1 a.2⟩
noncomputable def v_bits_Mul : Env := { ti := look tab, Γ := fns [(95, [], e_bits_Mul64)], loop := fun _ => none, cut := fun _ => none, deep := fun _ => false }
theorem c_bits_Mul : Contract Try.prog 72 e_bits_Mul.sig e_bits_Mul.F :=
  den_is (E := v_bits_Mul) ⟨tab_ti, tab_eq⟩ (fns_cons c_bits_Mul64 (fns_nil _)) mixed Try.func72 (by kernel_rfl) (by kernel_rfl) (fun x => by kernel_rfl)

def s_slices_Repeat_int : Sig := { params := [.val false y22, .val false y3], res := [.row 3 y3 false] }
noncomputable def e_slices_Repeat_int : Entry := ⟨s_slices_Repeat_int, fun a => D.slices_Repeat_int a.1 a.2⟩
noncomputable def v_slices_Repeat_int : Env := { ti := look tab, Γ := fns [(72, [], e_bits_Mul)], loop := fun b => match b with | 0 => some [.slot 8 (.int .i64), .vec 7 3 y3 false] | _ => none, cut := fun _ => none, deep := fun _ => false }
theorem c_slices_Repeat_int : Contract Try.prog 46 e_slices_Repeat_int.sig e_slices_Repeat_int.F :=
  den_is (E := v_slices_Repeat_int) ⟨tab_ti, tab_eq⟩ (fns_cons c_bits_Mul (fns_nil _)) mixed Try.func46 (by kernel_rfl) (by kernel_rfl) (fun x => by kernel_rfl)

def s_impl_at : Sig := { params := [.val false y3, .val false y3], res := [.val false y4] }
noncomputable def e_impl_at : Entry := ⟨s_impl_at, fun a => D.impl_at a.1 a.2⟩
noncomputable def v_impl_at : Env := { ti := look tab, Γ := fns [], loop := fun _ => none, cut := fun _ => none, deep := fun _ => false }
theorem c_impl_at : Contract Try.prog 41 e_impl_at.sig e_impl_at.F :=
  den_is (E := v_impl_at) ⟨tab_ti, tab_eq⟩ (fns_nil _) mixed Try.func41 (by kernel_rfl) (by kernel_rfl) (fun x => by kernel_rfl)

def s_impl_InRange : Sig := { params := [.val false y3, .val false y3, .val false y3], res := [.val false y4] }
noncomputable def e_impl_InRange : Entry := ⟨s_impl_InRange, fun a => D.impl_InRange a.1 a.2.1 a.2.2⟩
noncomputable def v_impl_InRange : Env := { ti := look tab, Γ := fns [], loop := fun _ => none, cut := fun _ => none, deep := fun _ => false }
theorem c_impl_InRange : Contract Try.prog 51 e_impl_InRange.sig e_impl_InRange.F :=
  den_is (E := v_impl_InRange) ⟨tab_ti, tab_eq⟩ (fns_nil _) mixed Try.func51 (by kernel_rfl) (by kernel_rfl) (fun x => by kernel_rfl)

def s_impl_IsValidKey : Sig := { params := [.val false y3], res := [.val false y4] }
noncomputable def e_impl_IsValidKey : Entry := ⟨s_impl_IsValidKey, fun a => D.impl_IsValidKey a⟩
noncomputable def v_impl_IsValidKey : Env := { ti := look tab, Γ := fns [(51, [], e_impl_InRange)], loop := fun _ => none, cut := fun _ => none, deep := fun _ => false }
theorem c_impl_IsValidKey : Contract Try.prog 21 e_impl_IsValidKey.sig e_impl_IsValidKey.F :=
  den_is (E := v_impl_IsValidKey) ⟨tab_ti, tab_eq⟩ (fns_cons c_impl_InRange (fns_nil _)) mixed Try.func21 (by kernel_rfl) (by kernel_rfl) (fun x => by kernel_rfl)

def s_impl_Mod : Sig := { params := [.val false y3, .val false y3], res := [.val false y3] }
noncomputable def e_impl_Mod : Entry := ⟨s_impl_Mod, fun a => D.impl_Mod a.1 a.2⟩
noncomputable def v_impl_Mod : Env := { ti := look tab, Γ := fns [(51, [], e_impl_InRange)], loop := fun _ => none, cut := fun _ => none, deep := fun _ => false }
theorem c_impl_Mod : Contract Try.prog 61 e_impl_Mod.sig e_impl_Mod.F :=
  den_is (E := v_impl_Mod) ⟨tab_ti, tab_eq⟩ (fns_cons c_impl_InRange (fns_nil _)) mixed Try.func61 (by kernel_rfl) (by kernel_rfl) (fun x => by kernel_rfl)

def s_impl_Hash : Sig := { params := [.val false y22], res := [.val false y3] }
noncomputable def e_impl_Hash : Entry := ⟨s_impl_Hash, fun a => D.impl_Hash a⟩
noncomputable def v_impl_Hash : Env := { ti := look tab, Γ := fns [(61, [], e_impl_Mod)], loop := fun b => match b with | 0 => some [.slot 3 (.int .i64), .slot 8 (.int .i64)] | _ => none, cut := fun _ => none, deep := fun _ => false }
theorem c_impl_Hash : Contract Try.prog 62 e_impl_Hash.sig e_impl_Hash.F :=
  den_is (E := v_impl_Hash) ⟨tab_ti, tab_eq⟩ (fns_cons c_impl_Mod (fns_nil _)) mixed Try.func62 (by kernel_rfl) (by kernel_rfl) (fun x => by kernel_rfl)

def s_impl_KeyedHash : Sig := { params := [.val false y3, .val false y22], res := [.val false y3] }
noncomputable def e_impl_KeyedHash : Entry := ⟨s_impl_KeyedHash, fun a => D.impl_KeyedHash a.1 a.2⟩
noncomputable def v_impl_KeyedHash : Env := { ti := look tab, Γ := fns [(62, [], e_impl_Hash)], loop := fun _ => none, cut := fun _ => none, deep := fun _ => false }
theorem c_impl_KeyedHash : Contract Try.prog 48 e_impl_KeyedHash.sig e_impl_KeyedHash.F :=
  den_is (E := v_impl_KeyedHash) ⟨tab_ti, tab_eq⟩ (fns_cons c_impl_Hash (fns_nil _)) mixed Try.func48 (by kernel_rfl) (by kernel_rfl) (fun x => by kernel_rfl)

def s_impl_SealStatement : Sig := { params := [.val false y3, .val true y38], res := [.val true y38] }
noncomputable def e_impl_SealStatement : Entry := ⟨s_impl_SealStatement, fun a => D.impl_SealStatement a.1 a.2⟩
noncomputable def v_impl_SealStatement : Env := { ti := look tab, Γ := fns [(21, [], e_impl_IsValidKey), (48, [], e_impl_KeyedHash)], loop := fun _ => none, cut := fun _ => none, deep := fun _ => false }
theorem c_impl_SealStatement : Contract Try.prog 19 e_impl_SealStatement.sig e_impl_SealStatement.F :=
  den_is (E := v_impl_SealStatement) ⟨tab_ti, tab_eq⟩ (fns_cons c_impl_IsValidKey (fns_cons c_impl_KeyedHash (fns_nil _))) mixed Try.func19 (by kernel_rfl) (by kernel_rfl) (fun x => by kernel_rfl)

def s_impl_IsStatement : Sig := { params := [.val false y22, .val true y38], res := [.val false y4] }
noncomputable def e_impl_IsStatement : Entry := ⟨s_impl_IsStatement, fun a => D.impl_IsStatement a.1 a.2⟩
noncomputable def v_impl_IsStatement : Env := { ti := look tab, Γ := fns [(41, [], e_impl_at), (21, [], e_impl_IsValidKey), (51, [], e_impl_InRange), (19, [], e_impl_SealStatement)], loop := fun _ => none, cut := fun _ => none, deep := fun _ => false }
theorem c_impl_IsStatement : Contract Try.prog 47 e_impl_IsStatement.sig e_impl_IsStatement.F :=
  den_is (E := v_impl_IsStatement) ⟨tab_ti, tab_eq⟩ (fns_cons c_impl_at (fns_cons c_impl_IsValidKey (fns_cons c_impl_InRange (fns_cons c_impl_SealStatement (fns_nil _))))) mixed Try.func47 (by kernel_rfl) (by kernel_rfl) (fun x => by kernel_rfl)

def s_impl_FirstSeen : Sig := { params := [.val false y22, .val false y27, .val false y3], res := [.row 3 y3 false] }
noncomputable def e_impl_FirstSeen : Entry := ⟨s_impl_FirstSeen, fun a => D.impl_FirstSeen a.1 a.2.1 a.2.2⟩
noncomputable def v_impl_FirstSeen : Env := { ti := look tab, Γ := fns [(46, [], e_slices_Repeat_int), (47, [], e_impl_IsStatement)], loop := fun b => match b with | 0 => some [.slot 16 (.int .i64), .vec 7 3 y3 false] | _ => none, cut := fun _ => none, deep := fun _ => false }
theorem c_impl_FirstSeen : Contract Try.prog 18 e_impl_FirstSeen.sig e_impl_FirstSeen.F :=
  den_is (E := v_impl_FirstSeen) ⟨tab_ti, tab_eq⟩ (fns_cons c_slices_Repeat_int (fns_cons c_impl_IsStatement (fns_nil _))) mixed Try.func18 (by kernel_rfl) (by kernel_rfl) (fun x => by kernel_rfl)

def s_impl_ProvenBy : Sig := { params := [.val false y22, .val false y27, .val false y3, .val false y3], res := [.val false y3] }
noncomputable def e_impl_ProvenBy : Entry := ⟨s_impl_ProvenBy, fun a => D.impl_ProvenBy a.1 a.2.1 a.2.2.1 a.2.2.2⟩
theorem c_impl_ProvenBy : Contract Try.prog 13 e_impl_ProvenBy.sig e_impl_ProvenBy.F := Eq.mp (by kernel_rfl) (Go.Proofs.Ytekclbjiifiahaa.Ex.provenBy_is (T := y27) (F := e_impl_FirstSeen.F) (Eq.mp (by kernel_rfl) c_impl_FirstSeen))

def s_spec_DrawSealStatement : Sig := { params := [.val false y32], res := [.val false y3, .val true y38] }
noncomputable def e_spec_DrawSealStatement : Entry := ⟨s_spec_DrawSealStatement, fun a => D.spec_DrawSealStatement a⟩
noncomputable def v_spec_DrawSealStatement : Env := { ti := look tab, Γ := fns [(44, [], e_spec_l1New), (49, [], e_spec_l26Keys), (45, [], e_spec_l1Int), (50, [], e_spec_l26Draw)], loop := fun _ => none, cut := fun _ => none, deep := fun _ => false }
theorem c_spec_DrawSealStatement : Contract Try.prog 20 e_spec_DrawSealStatement.sig e_spec_DrawSealStatement.F :=
  den_is (E := v_spec_DrawSealStatement) ⟨tab_ti, tab_eq⟩ (fns_cons c_spec_l1New (fns_cons c_spec_l26Keys (fns_cons c_spec_l1Int (fns_cons c_spec_l26Draw (fns_nil _))))) mixed Try.func20 (by kernel_rfl) (by kernel_rfl) (fun x => by kernel_rfl)

def s_impl_CountHonest : Sig := { params := [.val false y22, .val false y27], res := [.val false y3] }
noncomputable def e_impl_CountHonest : Entry := ⟨s_impl_CountHonest, fun a => D.impl_CountHonest a.1 a.2⟩
noncomputable def v_impl_CountHonest : Env := { ti := look tab, Γ := fns [(47, [], e_impl_IsStatement)], loop := fun b => match b with | 0 => some [.slot 5 (.int .i64), .slot 10 (.int .i64)] | _ => none, cut := fun _ => none, deep := fun _ => false }
theorem c_impl_CountHonest : Contract Try.prog 22 e_impl_CountHonest.sig e_impl_CountHonest.F :=
  den_is (E := v_impl_CountHonest) ⟨tab_ti, tab_eq⟩ (fns_cons c_impl_IsStatement (fns_nil _)) mixed Try.func22 (by kernel_rfl) (by kernel_rfl) (fun x => by kernel_rfl)

def s_laws_FnProven : Sig := { params := [.val false y32], res := [.val false y4] }
noncomputable def e_laws_FnProven : Entry := ⟨s_laws_FnProven, fun a => D.laws_FnProven a⟩
noncomputable def v_laws_FnProven : Env := { ti := look tab, Γ := fns [(16, [], e_laws_big), (17, [], e_spec_DrawProvenBy), (13, [], e_impl_ProvenBy), (18, [], e_impl_FirstSeen), (19, [], e_impl_SealStatement), (20, [], e_spec_DrawSealStatement), (21, [], e_impl_IsValidKey), (22, [], e_impl_CountHonest)], loop := fun b => match b with | 0 => some [.slot 9 (.int .i64), .slot 10 (.int .i64), .slot 11 (.int .i64)] | 2 => some [.slot 13 (.int .i64), .slot 14 (.int .i64)] | _ => none, cut := fun _ => none, deep := fun _ => false }
theorem c_laws_FnProven : Contract Try.prog 4 e_laws_FnProven.sig e_laws_FnProven.F :=
  den_is (E := v_laws_FnProven) ⟨tab_ti, tab_eq⟩ (fns_cons c_laws_big (fns_cons c_spec_DrawProvenBy (fns_cons c_impl_ProvenBy (fns_cons c_impl_FirstSeen (fns_cons c_impl_SealStatement (fns_cons c_spec_DrawSealStatement (fns_cons c_impl_IsValidKey (fns_cons c_impl_CountHonest (fns_nil _))))))))) mixed Try.func4 (by kernel_rfl) (by kernel_rfl) (fun x => by kernel_rfl)

theorem law_true (a : Tup (s_laws_FnProven.params.map PTy.den)) (hok : argsOk Try.prog s_laws_FnProven.params a) : D.laws_FnProven a = some true := D.FnProven_true a (Ty.ok_bd (P := Try.prog) (t := y32) (by kernel_rfl) hok.1)
theorem lifted (os : Os) (started : os.Started) (H : Type) (enc : TypeId × Value → H) :
    ReturnsInHanded {} Try.checked os 4 .any (Rows.fnProvenSpec.pre6 enc Try.prog Try.f4 Rows.fnProvenRow.domain false) (Rows.fnProvenSpec.post enc Try.prog Try.f4 false true false false) := by
  refine returnsInHanded_of_change_sized (C := Try.checked) (by kernel_rfl) started (by kernel_rfl) Try.func4
    (ChangeSpec.witness6 (enc := enc) (C := Try.checked) false ⟨#[], #[.slice none 0 0], []⟩ 8 (by kernel_rfl) (by kernel_rfl) (by kernel_rfl) (by kernel_rfl)) ?_
  intro W base args ds gs before hval hW hcnd hsz _
  exact law_row (C := Try.checked) rfl c_laws_FnProven (N := 8) (by kernel_rfl) (tb := 4) (by kernel_rfl) (by kernel_rfl) (by kernel_rfl) (by kernel_rfl) rfl
    (fun ds h => by
      have h : ds.length = 1 := h
      match ds, h with
      | [d0], _ => rfl)
    bulky_sizeOf (small := fun _ => True) (fun a ds hok _ _ => ⟨_, law_true a hok, rfl⟩) hval hW hsz trivial trivial

theorem over : Rows.fnProvenRow.holds Try.pinned (OpenSpec.ofChange Rows.fnProvenSpec) :=
  OpenClaim.holds_of_wide 4 Try.f4 rfl rfl rfl rfl rfl rfl rfl ⟨rfl, rfl, rfl, rfl, rfl⟩ rfl rfl rfl rfl rfl (by kernel_rfl) Try.func4 (by kernel_rfl)
    (of_decide_eq_true (by kernel_rfl)) (by unfold Func.isWrapper; first | (rw [if_pos (by decide +kernel)]; kernel_rfl) | (rw [if_neg (by decide +kernel)]; exact ⟨rfl, rfl⟩))
    (fun os started H enc _ => lifted os started H enc)
end Go.Proofs.Ytekclbjiifiahaa.SxFnProven
namespace Go.Proofs.Ytekclbjiifiahaa
theorem fnProven_holds : Rows.FnProvenSaid := SxFnProven.over
end Go.Proofs.Ytekclbjiifiahaa
