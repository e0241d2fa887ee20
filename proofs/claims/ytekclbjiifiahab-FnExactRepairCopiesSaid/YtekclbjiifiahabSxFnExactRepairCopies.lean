/- FnExactRepairCopies returns true for every input, and each input reads as it did. No condition. -/
import Derived.Test.YtekclbjiifiahabRows
import Derived.Test.YtekclbjiifiahabPuFnExactRepairCopies
import Derived.Test.YtekclbjiifiahabEx
import Derived.WalkKit
import Derived.ProofKit
import Derived.ShutString
import Derived.SizedLaws
set_option linter.unusedVariables false
set_option maxRecDepth 100000
set_option maxHeartbeats 4000000
namespace Go.Proofs.Ytekclbjiifiahab.SxFnExactRepairCopies
open Go Go.Sh Go.RowKit
instance laid0 : Laid := ⟨fun _ => True, fun _ => False, fun _ _ _ h => h.elim, fun _ _ _ _ => trivial⟩
def y3 : Ty := .int .i64
def y4 : Ty := .bool
def y35 : Ty := .slice 3 y3
def y43 : Ty := .pair y3 (.pair y35 (.pair y4 y4))
def y22 : Ty := .slice 43 y43
def y37 : Ty := .pair y3 (.pair y35 (.pair y4 y4))
def y24 : Ty := .slice 37 y37
def y77 : Ty := .int .u64
def tab : List (TypeId × TI) := [(3, { size := 1, bytes := 8, agg := false, ty := some y3 }),
  (4, { size := 1, bytes := 1, agg := false, ty := some y4 }),
  (35, { size := 1, bytes := 24, agg := false, ty := some y35, elem := some 3 }),
  (43, { size := 4, bytes := 40, agg := true, ty := some y43, fields := [(0, 3), (1, 35), (2, 4), (3, 4)] }),
  (22, { size := 1, bytes := 24, agg := false, ty := some y22, elem := some 43 }),
  (37, { size := 4, bytes := 40, agg := true, ty := some y37, fields := [(0, 3), (1, 35), (2, 4), (3, 4)] }),
  (24, { size := 1, bytes := 24, agg := false, ty := some y24, elem := some 37 }),
  (77, { size := 1, bytes := 8, agg := false, ty := some y77 })]
def look : List (TypeId × TI) → TypeId → Option TI
  | [], _ => none
  | (k, i) :: r, t => if Nat.beq t k = true then some i else look r t
theorem look_ok {P : Program} : ∀ {l : List (TypeId × TI)}, (l.all fun p => tiOk P p.1 p.2) = true → ∀ t i, look l t = some i → tiOk P t i = true
  | [], _, t, i, h => by simp [look] at h
  | (k, j) :: r, h0, t, i, h => by
    simp only [List.all_cons, Bool.and_eq_true] at h0
    simp only [look] at h
    split at h
    · rename_i hk
      simp only [Option.some.injEq] at h
      have := Nat.eq_of_beq_eq_true hk
      subst this; subst h; exact h0.1
    · exact look_ok h0.2 t i h
theorem look_eq {P : Program} : ∀ {l : List (TypeId × TI)}, (l.all fun p => !p.2.eq || eqTop P p.1 p.2.ty) = true → ∀ t i, look l t = some i → i.eq = true → ∀ ty, i.ty = some ty → EqLaw P t ty.zero
  | [], _, t, i, h => by simp [look] at h
  | (k, j) :: r, h0, t, i, h => by
    simp only [List.all_cons, Bool.and_eq_true, Bool.or_eq_true, Bool.not_eq_true'] at h0
    simp only [look] at h
    split at h
    · rename_i hk
      simp only [Option.some.injEq] at h
      have := Nat.eq_of_beq_eq_true hk
      subst this; subst h
      intro he
      exact eqLaw_of (h0.1.resolve_left (by simp [he]))
    · exact look_eq h0.2 t i h
def same : List Nat → List Nat → Bool
  | [], [] => true
  | a :: x, b :: y => Nat.beq a b && same x y
  | _, _ => false
theorem same_eq : ∀ {x y : List Nat}, same x y = true → x = y
  | [], [], _ => rfl
  | a :: x, b :: y, h => by
    simp only [same, Bool.and_eq_true] at h
    rw [Nat.eq_of_beq_eq_true h.1, same_eq h.2]
  | [], _ :: _, h => by simp [same] at h
  | _ :: _, [], h => by simp [same] at h
def fns : List (FuncId × List FuncId × Entry) → FuncId → List FuncId → Option Entry
  | [], _, _ => none
  | (k, c, e) :: r, f, fs => if (Nat.beq f k && same fs c) = true then some e else fns r f fs
theorem fns_nil (P : Program) : ∀ f fs en, fns [] f fs = some en → Contract P f en.sig en.F := fun f fs en h => by simp [fns] at h
theorem fns_cons {P : Program} {k : FuncId} {c : List FuncId} {e : Entry} {r : List (FuncId × List FuncId × Entry)} (hk : Contract P k e.sig e.F) (hr : ∀ f fs en, fns r f fs = some en → Contract P f en.sig en.F) : ∀ f fs en, fns ((k, c, e) :: r) f fs = some en → Contract P f en.sig en.F := fun f fs en h => by
  simp only [fns] at h
  split at h
  · rename_i hf
    simp only [Bool.and_eq_true] at hf
    simp only [Option.some.injEq] at h
    have := Nat.eq_of_beq_eq_true hf.1
    subst this; subst h; exact hk
  · exact hr f fs en h

theorem tab_ti : ∀ t i, look tab t = some i → tiOk Try.prog t i = true := look_ok (by kernel_rfl)
theorem tab_eq : ∀ t i, look tab t = some i → i.eq = true → ∀ ty, i.ty = some ty → EqLaw Try.prog t ty.zero := look_eq (by kernel_rfl)
theorem mixed : Try.prog.follows .mixedOrders = true := by kernel_rfl
def s_laws_szIntS : Sig := { params := [.val false y35, .val false y3], res := [.val false y3] }
noncomputable def e_laws_szIntS : Entry := ⟨s_laws_szIntS, fun a => D.laws_szIntS a.1 a.2⟩
noncomputable def v_laws_szIntS : Env := { ti := look tab, Γ := fns [], loop := fun _ => none, cut := fun _ => none, deep := fun _ => false }
theorem c_laws_szIntS : Contract Try.prog 46 e_laws_szIntS.sig e_laws_szIntS.F :=
  den_is (E := v_laws_szIntS) ⟨tab_ti, tab_eq⟩ (fns_nil _) mixed Try.func46 (by kernel_rfl) (by kernel_rfl) (fun x => by kernel_rfl)

def s_laws_szLibrary : Sig := { params := [.val true y43, .val false y3], res := [.val false y3] }
noncomputable def e_laws_szLibrary : Entry := ⟨s_laws_szLibrary, fun a => D.laws_szLibrary a.1 a.2⟩
noncomputable def v_laws_szLibrary : Env := { ti := look tab, Γ := fns [(46, [], e_laws_szIntS)], loop := fun _ => none, cut := fun _ => none, deep := fun _ => false }
theorem c_laws_szLibrary : Contract Try.prog 20 e_laws_szLibrary.sig e_laws_szLibrary.F :=
  den_is (E := v_laws_szLibrary) ⟨tab_ti, tab_eq⟩ (fns_cons c_laws_szIntS (fns_nil _)) mixed Try.func20 (by kernel_rfl) (by kernel_rfl) (fun x => by kernel_rfl)

def s_laws_szLibraryS : Sig := { params := [.val false y22, .val false y3], res := [.val false y3] }
noncomputable def e_laws_szLibraryS : Entry := ⟨s_laws_szLibraryS, fun a => D.laws_szLibraryS a.1 a.2⟩
noncomputable def v_laws_szLibraryS : Env := { ti := look tab, Γ := fns [(20, [], e_laws_szLibrary)], loop := fun b => match b with | 0 => some [.slot 1 (.int .i64), .slot 5 (.int .i64)] | _ => none, cut := fun _ => none, deep := fun _ => false }
theorem c_laws_szLibraryS : Contract Try.prog 5 e_laws_szLibraryS.sig e_laws_szLibraryS.F :=
  den_is (E := v_laws_szLibraryS) ⟨tab_ti, tab_eq⟩ (fns_cons c_laws_szLibrary (fns_nil _)) mixed Try.func5 (by kernel_rfl) (by kernel_rfl) (fun x => by kernel_rfl)

def s_laws_toIntS : Sig := { params := [.val false y35], res := [.row 3 y3 false] }
noncomputable def e_laws_toIntS : Entry := ⟨s_laws_toIntS, fun a => D.laws_toIntS a⟩
noncomputable def v_laws_toIntS : Env := { ti := look tab, Γ := fns [], loop := fun b => match b with | 0 => some [.slot 4 (.int .i64), .vec 3 3 y3 false] | _ => none, cut := fun _ => none, deep := fun _ => false }
theorem c_laws_toIntS : Contract Try.prog 49 e_laws_toIntS.sig e_laws_toIntS.F :=
  den_is (E := v_laws_toIntS) ⟨tab_ti, tab_eq⟩ (fns_nil _) mixed Try.func49 (by kernel_rfl) (by kernel_rfl) (fun x => by kernel_rfl)

def s_laws_toLibrary : Sig := { params := [.val true y43], res := [.val false y3, .row 3 y3 false, .val false y4, .val false y4], rgroups := [some 4] }
noncomputable def e_laws_toLibrary : Entry := ⟨s_laws_toLibrary, fun a => D.laws_toLibrary a⟩
noncomputable def v_laws_toLibrary : Env := { ti := look tab, Γ := fns [(49, [], e_laws_toIntS)], loop := fun _ => none, cut := fun _ => none, deep := fun _ => false }
theorem c_laws_toLibrary : Contract Try.prog 28 e_laws_toLibrary.sig e_laws_toLibrary.F :=
  den_is (E := v_laws_toLibrary) ⟨tab_ti, tab_eq⟩ (fns_cons c_laws_toIntS (fns_nil _)) mixed Try.func28 (by kernel_rfl) (by kernel_rfl) (fun x => by kernel_rfl)

def s_laws_toLibraryS : Sig := { params := [.val false y22], res := [.row 37 y37 true] }
noncomputable def e_laws_toLibraryS : Entry := ⟨s_laws_toLibraryS, fun a => D.laws_toLibraryS a⟩
noncomputable def v_laws_toLibraryS : Env := { ti := look tab, Γ := fns [(28, [], e_laws_toLibrary)], loop := fun b => match b with | 0 => some [.slot 4 (.int .i64), .vec 3 37 y37 true] | _ => none, cut := fun _ => none, deep := fun t => Nat.beq t 7 }
theorem c_laws_toLibraryS : Contract Try.prog 7 e_laws_toLibraryS.sig e_laws_toLibraryS.F :=
  den_is (E := v_laws_toLibraryS) ⟨tab_ti, tab_eq⟩ (fns_cons c_laws_toLibrary (fns_nil _)) mixed Try.func7 (by kernel_rfl) (by kernel_rfl) (fun x => by kernel_rfl)

def s_spec_l29Copy : Sig := { params := [.val false y24], res := [.row 37 y37 true] }
noncomputable def e_spec_l29Copy : Entry := ⟨s_spec_l29Copy, fun a => D.spec_l29Copy a⟩
noncomputable def v_spec_l29Copy : Env := { ti := look tab, Γ := fns [], loop := fun b => match b with | 0 => some [.slot 3 (.own 37 y37 true), .slot 4 (.int .i64)] | _ => none, cut := fun _ => none, deep := fun t => Nat.beq t 5 || Nat.beq t 36 }
theorem c_spec_l29Copy : Contract Try.prog 21 e_spec_l29Copy.sig e_spec_l29Copy.F :=
  den_is (E := v_spec_l29Copy) ⟨tab_ti, tab_eq⟩ (fns_nil _) mixed Try.func21 (by kernel_rfl) (by kernel_rfl) (fun x => by kernel_rfl)

def s_spec_l1In : Sig := { params := [.val false y3, .val false y3, .val false y3], res := [.val false y4] }
noncomputable def e_spec_l1In : Entry := ⟨s_spec_l1In, fun a => D.spec_l1In a.1 a.2.1 a.2.2⟩
noncomputable def v_spec_l1In : Env := { ti := look tab, Γ := fns [], loop := fun _ => none, cut := fun _ => none, deep := fun _ => false }
theorem c_spec_l1In : Contract Try.prog 47 e_spec_l1In.sig e_spec_l1In.F :=
  den_is (E := v_spec_l1In) ⟨tab_ti, tab_eq⟩ (fns_nil _) mixed Try.func47 (by kernel_rfl) (by kernel_rfl) (fun x => by kernel_rfl)

def s_spec_AreLibraries : Sig := { params := [.val false y24], res := [.val false y4] }
noncomputable def e_spec_AreLibraries : Entry := ⟨s_spec_AreLibraries, fun a => D.spec_AreLibraries a⟩
noncomputable def v_spec_AreLibraries : Env := { ti := look tab, Γ := fns [(47, [], e_spec_l1In)], loop := fun b => match b with | 0 => some [.slot 3 (.int .i64)] | 2 => some [.slot 4 (.int .i64)] | _ => none, cut := fun _ => none, deep := fun _ => false }
theorem c_spec_AreLibraries : Contract Try.prog 22 e_spec_AreLibraries.sig e_spec_AreLibraries.F :=
  den_is (E := v_spec_AreLibraries) ⟨tab_ti, tab_eq⟩ (fns_cons c_spec_l1In (fns_nil _)) mixed Try.func22 (by kernel_rfl) (by kernel_rfl) (fun x => by kernel_rfl)

def s_spec_l28Has : Sig := { params := [.val false y35, .val false y3], res := [.val false y4] }
noncomputable def e_spec_l28Has : Entry := ⟨s_spec_l28Has, fun a => D.spec_l28Has a.1 a.2⟩
noncomputable def v_spec_l28Has : Env := { ti := look tab, Γ := fns [], loop := fun b => match b with | 0 => some [.slot 5 (.int .i64)] | _ => none, cut := fun _ => none, deep := fun _ => false }
theorem c_spec_l28Has : Contract Try.prog 24 e_spec_l28Has.sig e_spec_l28Has.F :=
  den_is (E := v_spec_l28Has) ⟨tab_ti, tab_eq⟩ (fns_nil _) mixed Try.func24 (by kernel_rfl) (by kernel_rfl) (fun x => by kernel_rfl)

def s_spec_GoodCopies : Sig := { params := [.val false y24, .val false y3], res := [.val false y3] }
noncomputable def e_spec_GoodCopies : Entry := ⟨s_spec_GoodCopies, fun a => D.spec_GoodCopies a.1 a.2⟩
noncomputable def v_spec_GoodCopies : Env := { ti := look tab, Γ := fns [(24, [], e_spec_l28Has)], loop := fun b => match b with | 0 => some [.slot 5 (.int .i64), .slot 6 (.int .i64)] | _ => none, cut := fun _ => none, deep := fun _ => false }
theorem c_spec_GoodCopies : Contract Try.prog 23 e_spec_GoodCopies.sig e_spec_GoodCopies.F :=
  den_is (E := v_spec_GoodCopies) ⟨tab_ti, tab_eq⟩ (fns_cons c_spec_l28Has (fns_nil _)) mixed Try.func23 (by kernel_rfl) (by kernel_rfl) (fun x => by kernel_rfl)

def s_spec_Mod : Sig := { params := [.val false y3, .val false y3], res := [.val false y3] }
noncomputable def e_spec_Mod : Entry := ⟨s_spec_Mod, fun a => D.spec_Mod a.1 a.2⟩
noncomputable def v_spec_Mod : Env := { ti := look tab, Γ := fns [(47, [], e_spec_l1In)], loop := fun _ => none, cut := fun _ => none, deep := fun _ => false }
theorem c_spec_Mod : Contract Try.prog 73 e_spec_Mod.sig e_spec_Mod.F :=
  den_is (E := v_spec_Mod) ⟨tab_ti, tab_eq⟩ (fns_cons c_spec_l1In (fns_nil _)) mixed Try.func73 (by kernel_rfl) (by kernel_rfl) (fun x => by kernel_rfl)

def s_spec_Hash : Sig := { params := [.val false y35], res := [.val false y3] }
noncomputable def e_spec_Hash : Entry := ⟨s_spec_Hash, fun a => D.spec_Hash a⟩
noncomputable def v_spec_Hash : Env := { ti := look tab, Γ := fns [(73, [], e_spec_Mod)], loop := fun b => match b with | 0 => some [.slot 3 (.int .i64), .slot 4 (.int .i64)] | _ => none, cut := fun _ => none, deep := fun _ => false }
theorem c_spec_Hash : Contract Try.prog 74 e_spec_Hash.sig e_spec_Hash.F :=
  den_is (E := v_spec_Hash) ⟨tab_ti, tab_eq⟩ (fns_cons c_spec_Mod (fns_nil _)) mixed Try.func74 (by kernel_rfl) (by kernel_rfl) (fun x => by kernel_rfl)

def s_spec_RankOf : Sig := { params := [.val false y3, .val false y3], res := [.val false y3] }
noncomputable def e_spec_RankOf : Entry := ⟨s_spec_RankOf, fun a => D.spec_RankOf a.1 a.2⟩
noncomputable def v_spec_RankOf : Env := { ti := look tab, Γ := fns [(74, [], e_spec_Hash), (73, [], e_spec_Mod)], loop := fun _ => none, cut := fun _ => none, deep := fun _ => false }
theorem c_spec_RankOf : Contract Try.prog 61 e_spec_RankOf.sig e_spec_RankOf.F :=
  den_is (E := v_spec_RankOf) ⟨tab_ti, tab_eq⟩ (fns_cons c_spec_Hash (fns_cons c_spec_Mod (fns_nil _))) mixed Try.func61 (by kernel_rfl) (by kernel_rfl) (fun x => by kernel_rfl)

def s_spec_l28Before : Sig := { params := [.val false y3, .val false y3, .val false y3], res := [.val false y4] }
noncomputable def e_spec_l28Before : Entry := ⟨s_spec_l28Before, fun a => D.spec_l28Before a.1 a.2.1 a.2.2⟩
noncomputable def v_spec_l28Before : Env := { ti := look tab, Γ := fns [(61, [], e_spec_RankOf)], loop := fun _ => none, cut := fun _ => none, deep := fun _ => false }
theorem c_spec_l28Before : Contract Try.prog 48 e_spec_l28Before.sig e_spec_l28Before.F :=
  den_is (E := v_spec_l28Before) ⟨tab_ti, tab_eq⟩ (fns_cons c_spec_RankOf (fns_nil _)) mixed Try.func48 (by kernel_rfl) (by kernel_rfl) (fun x => by kernel_rfl)

def s_spec_OrderFor : Sig := { params := [.val false y35, .val false y3], res := [.row 3 y3 false] }
noncomputable def e_spec_OrderFor : Entry := ⟨s_spec_OrderFor, fun a => D.spec_OrderFor a.1 a.2⟩
noncomputable def v_spec_OrderFor : Env := { ti := look tab, Γ := fns [(24, [], e_spec_l28Has), (48, [], e_spec_l28Before)], loop := fun b => match b with | 0 => some [.slot 5 (.own 3 y3 false), .slot 6 (.int .i64)] | 2 => some [.slot 8 (.int .i64)] | _ => none, cut := fun _ => none, deep := fun _ => false }
theorem c_spec_OrderFor : Contract Try.prog 25 e_spec_OrderFor.sig e_spec_OrderFor.F :=
  den_is (E := v_spec_OrderFor) ⟨tab_ti, tab_eq⟩ (fns_cons c_spec_l28Has (fns_cons c_spec_l28Before (fns_nil _))) mixed Try.func25 (by kernel_rfl) (by kernel_rfl) (fun x => by kernel_rfl)

def s_spec_HoldersOf : Sig := { params := [.val false y24, .val false y3], res := [.row 3 y3 false] }
noncomputable def e_spec_HoldersOf : Entry := ⟨s_spec_HoldersOf, fun a => D.spec_HoldersOf a.1 a.2⟩
noncomputable def v_spec_HoldersOf : Env := { ti := look tab, Γ := fns [(24, [], e_spec_l28Has)], loop := fun b => match b with | 0 => some [.slot 5 (.own 3 y3 false), .slot 6 (.int .i64)] | _ => none, cut := fun _ => none, deep := fun _ => false }
theorem c_spec_HoldersOf : Contract Try.prog 26 e_spec_HoldersOf.sig e_spec_HoldersOf.F :=
  den_is (E := v_spec_HoldersOf) ⟨tab_ti, tab_eq⟩ (fns_cons c_spec_l28Has (fns_nil _)) mixed Try.func26 (by kernel_rfl) (by kernel_rfl) (fun x => by kernel_rfl)

def s_spec_l9Put : Sig := { params := [.val false y35, .val false y3], res := [.row 3 y3 false] }
noncomputable def e_spec_l9Put : Entry := ⟨s_spec_l9Put, fun a => D.spec_l9Put a.1 a.2⟩
noncomputable def v_spec_l9Put : Env := { ti := look tab, Γ := fns [], loop := fun b => match b with | 0 => some [.slot 5 (.int .i64)] | _ => none, cut := fun _ => none, deep := fun _ => false }
theorem c_spec_l9Put : Contract Try.prog 27 e_spec_l9Put.sig e_spec_l9Put.F :=
  den_is (E := v_spec_l9Put) ⟨tab_ti, tab_eq⟩ (fns_nil _) mixed Try.func27 (by kernel_rfl) (by kernel_rfl) (fun x => by kernel_rfl)

def s_spec_RepairCopies : Sig := { params := [.val false y24, .val false y3, .val false y3], res := [.row 37 y37 true, .val false y4] }
noncomputable def e_spec_RepairCopies : Entry := ⟨s_spec_RepairCopies, fun a => D.spec_RepairCopies a.1 a.2.1 a.2.2⟩
noncomputable def v_spec_RepairCopies : Env := { ti := look tab, Γ := fns [(21, [], e_spec_l29Copy), (22, [], e_spec_AreLibraries), (23, [], e_spec_GoodCopies), (24, [], e_spec_l28Has), (25, [], e_spec_OrderFor), (26, [], e_spec_HoldersOf), (27, [], e_spec_l9Put)], loop := fun b => match b with | 0 => some [.slot 9 (.own 3 y3 false), .slot 10 (.int .i64)] | 2 => some [.slot 12 (.int .i64), .slot 13 (.int .i64), .vec 8 37 y37 true] | 4 => some [.slot 14 (.int .i64), .vec 8 37 y37 true] | _ => none, cut := fun _ => none, deep := fun _ => false }
theorem c_spec_RepairCopies : Contract Try.prog 6 e_spec_RepairCopies.sig e_spec_RepairCopies.F :=
  den_is (E := v_spec_RepairCopies) ⟨tab_ti, tab_eq⟩ (fns_cons c_spec_l29Copy (fns_cons c_spec_AreLibraries (fns_cons c_spec_GoodCopies (fns_cons c_spec_l28Has (fns_cons c_spec_OrderFor (fns_cons c_spec_HoldersOf (fns_cons c_spec_l9Put (fns_nil _)))))))) mixed Try.func6 (by kernel_rfl) (by kernel_rfl) (fun x => by kernel_rfl)

def s_slices_Clone_int : Sig := { params := [.val false y35], res := [.row 3 y3 false] }
noncomputable def e_slices_Clone_int : Entry := ⟨s_slices_Clone_int, fun a => D.slices_Clone_int a⟩
noncomputable def v_slices_Clone_int : Env := { ti := look tab, Γ := fns [], loop := fun _ => none, cut := fun _ => none, deep := fun _ => false }
theorem c_slices_Clone_int : Contract Try.prog 50 e_slices_Clone_int.sig e_slices_Clone_int.F :=
  den_is (E := v_slices_Clone_int) ⟨tab_ti, tab_eq⟩ (fns_nil _) mixed Try.func50 (by kernel_rfl) (by kernel_rfl) (fun x => by kernel_rfl)

def s_impl_copyLibraries : Sig := { params := [.val false y24], res := [.row 37 y37 true] }
noncomputable def e_impl_copyLibraries : Entry := ⟨s_impl_copyLibraries, fun a => D.impl_copyLibraries a⟩
noncomputable def v_impl_copyLibraries : Env := { ti := look tab, Γ := fns [(50, [], e_slices_Clone_int)], loop := fun b => match b with | 0 => some [.slot 3 (.own 37 y37 true), .slot 8 (.int .i64)] | _ => none, cut := fun _ => none, deep := fun t => Nat.beq t 18 }
theorem c_impl_copyLibraries : Contract Try.prog 29 e_impl_copyLibraries.sig e_impl_copyLibraries.F :=
  den_is (E := v_impl_copyLibraries) ⟨tab_ti, tab_eq⟩ (fns_cons c_slices_Clone_int (fns_nil _)) mixed Try.func29 (by kernel_rfl) (by kernel_rfl) (fun x => by kernel_rfl)

def s_impl_InRange : Sig := { params := [.val false y3, .val false y3, .val false y3], res := [.val false y4] }
noncomputable def e_impl_InRange : Entry := ⟨s_impl_InRange, fun a => D.impl_InRange a.1 a.2.1 a.2.2⟩
noncomputable def v_impl_InRange : Env := { ti := look tab, Γ := fns [], loop := fun _ => none, cut := fun _ => none, deep := fun _ => false }
theorem c_impl_InRange : Contract Try.prog 44 e_impl_InRange.sig e_impl_InRange.F :=
  den_is (E := v_impl_InRange) ⟨tab_ti, tab_eq⟩ (fns_nil _) mixed Try.func44 (by kernel_rfl) (by kernel_rfl) (fun x => by kernel_rfl)

def s_impl_sorted : Sig := { params := [.val false y35], res := [.row 3 y3 true] }
noncomputable def e_impl_sorted : Entry := ⟨s_impl_sorted, fun a => D.impl_sorted a⟩
theorem c_impl_sorted : Contract Try.prog 52 e_impl_sorted.sig e_impl_sorted.F := Eq.mp (by kernel_rfl) (Go.Proofs.Ytekclbjiifiahab.Ex.sorted_is)

def s_slices_Equal_int : Sig := { params := [.val false y35, .val false y35], res := [.val false y4] }
noncomputable def e_slices_Equal_int : Entry := ⟨s_slices_Equal_int, fun a => D.slices_Equal_int a.1 a.2⟩
noncomputable def v_slices_Equal_int : Env := { ti := look tab, Γ := fns [], loop := fun b => match b with | 0 => some [.slot 13 (.int .i64)] | _ => none, cut := fun _ => none, deep := fun _ => false }
theorem c_slices_Equal_int : Contract Try.prog 43 e_slices_Equal_int.sig e_slices_Equal_int.F :=
  den_is (E := v_slices_Equal_int) ⟨tab_ti, tab_eq⟩ (fns_nil _) mixed Try.func43 (by kernel_rfl) (by kernel_rfl) (fun x => by kernel_rfl)

def s_impl_ascends : Sig := { params := [.val false y35], res := [.val false y4] }
noncomputable def e_impl_ascends : Entry := ⟨s_impl_ascends, fun a => D.impl_ascends a⟩
noncomputable def v_impl_ascends : Env := { ti := look tab, Γ := fns [(52, [], e_impl_sorted), (43, [], e_slices_Equal_int)], loop := fun _ => none, cut := fun _ => none, deep := fun _ => false }
theorem c_impl_ascends : Contract Try.prog 45 e_impl_ascends.sig e_impl_ascends.F :=
  den_is (E := v_impl_ascends) ⟨tab_ti, tab_eq⟩ (fns_cons c_impl_sorted (fns_cons c_slices_Equal_int (fns_nil _))) mixed Try.func45 (by kernel_rfl) (by kernel_rfl) (fun x => by kernel_rfl)

def s_impl_AreLibraries : Sig := { params := [.val false y24], res := [.val false y4] }
noncomputable def e_impl_AreLibraries : Entry := ⟨s_impl_AreLibraries, fun a => D.impl_AreLibraries a⟩
noncomputable def v_impl_AreLibraries : Env := { ti := look tab, Γ := fns [(44, [], e_impl_InRange), (45, [], e_impl_ascends)], loop := fun b => match b with | 0 => some [.slot 3 (.int .i64), .slot 11 (.int .i64)] | _ => none, cut := fun _ => none, deep := fun _ => false }
theorem c_impl_AreLibraries : Contract Try.prog 16 e_impl_AreLibraries.sig e_impl_AreLibraries.F :=
  den_is (E := v_impl_AreLibraries) ⟨tab_ti, tab_eq⟩ (fns_cons c_impl_InRange (fns_cons c_impl_ascends (fns_nil _))) mixed Try.func16 (by kernel_rfl) (by kernel_rfl) (fun x => by kernel_rfl)

def s_slices_Index_int : Sig := { params := [.val false y35, .val false y3], res := [.val false y3] }
noncomputable def e_slices_Index_int : Entry := ⟨s_slices_Index_int, fun a => D.slices_Index_int a.1 a.2⟩
noncomputable def v_slices_Index_int : Env := { ti := look tab, Γ := fns [], loop := fun b => match b with | 0 => some [.slot 8 (.int .i64)] | _ => none, cut := fun _ => none, deep := fun _ => false }
theorem c_slices_Index_int : Contract Try.prog 51 e_slices_Index_int.sig e_slices_Index_int.F :=
  den_is (E := v_slices_Index_int) ⟨tab_ti, tab_eq⟩ (fns_nil _) mixed Try.func51 (by kernel_rfl) (by kernel_rfl) (fun x => by kernel_rfl)

def s_slices_Contains_int : Sig := { params := [.val false y35, .val false y3], res := [.val false y4] }
noncomputable def e_slices_Contains_int : Entry := ⟨s_slices_Contains_int, fun a => D.slices_Contains_int a.1 a.2⟩
noncomputable def v_slices_Contains_int : Env := { ti := look tab, Γ := fns [(51, [], e_slices_Index_int)], loop := fun _ => none, cut := fun _ => none, deep := fun _ => false }
theorem c_slices_Contains_int : Contract Try.prog 30 e_slices_Contains_int.sig e_slices_Contains_int.F :=
  den_is (E := v_slices_Contains_int) ⟨tab_ti, tab_eq⟩ (fns_cons c_slices_Index_int (fns_nil _)) mixed Try.func30 (by kernel_rfl) (by kernel_rfl) (fun x => by kernel_rfl)

def s_impl_GoodCopies : Sig := { params := [.val false y24, .val false y3], res := [.val false y3] }
noncomputable def e_impl_GoodCopies : Entry := ⟨s_impl_GoodCopies, fun a => D.impl_GoodCopies a.1 a.2⟩
noncomputable def v_impl_GoodCopies : Env := { ti := look tab, Γ := fns [(30, [], e_slices_Contains_int)], loop := fun b => match b with | 0 => some [.slot 5 (.int .i64), .slot 10 (.int .i64)] | _ => none, cut := fun _ => none, deep := fun _ => false }
theorem c_impl_GoodCopies : Contract Try.prog 18 e_impl_GoodCopies.sig e_impl_GoodCopies.F :=
  den_is (E := v_impl_GoodCopies) ⟨tab_ti, tab_eq⟩ (fns_cons c_slices_Contains_int (fns_nil _)) mixed Try.func18 (by kernel_rfl) (by kernel_rfl) (fun x => by kernel_rfl)

def s_impl_Mod : Sig := { params := [.val false y3, .val false y3], res := [.val false y3] }
noncomputable def e_impl_Mod : Entry := ⟨s_impl_Mod, fun a => D.impl_Mod a.1 a.2⟩
noncomputable def v_impl_Mod : Env := { ti := look tab, Γ := fns [(44, [], e_impl_InRange)], loop := fun _ => none, cut := fun _ => none, deep := fun _ => false }
theorem c_impl_Mod : Contract Try.prog 66 e_impl_Mod.sig e_impl_Mod.F :=
  den_is (E := v_impl_Mod) ⟨tab_ti, tab_eq⟩ (fns_cons c_impl_InRange (fns_nil _)) mixed Try.func66 (by kernel_rfl) (by kernel_rfl) (fun x => by kernel_rfl)

def s_impl_Hash : Sig := { params := [.val false y35], res := [.val false y3] }
noncomputable def e_impl_Hash : Entry := ⟨s_impl_Hash, fun a => D.impl_Hash a⟩
noncomputable def v_impl_Hash : Env := { ti := look tab, Γ := fns [(66, [], e_impl_Mod)], loop := fun b => match b with | 0 => some [.slot 3 (.int .i64), .slot 8 (.int .i64)] | _ => none, cut := fun _ => none, deep := fun _ => false }
theorem c_impl_Hash : Contract Try.prog 67 e_impl_Hash.sig e_impl_Hash.F :=
  den_is (E := v_impl_Hash) ⟨tab_ti, tab_eq⟩ (fns_cons c_impl_Mod (fns_nil _)) mixed Try.func67 (by kernel_rfl) (by kernel_rfl) (fun x => by kernel_rfl)

def s_impl_RankOf : Sig := { params := [.val false y3, .val false y3], res := [.val false y3] }
noncomputable def e_impl_RankOf : Entry := ⟨s_impl_RankOf, fun a => D.impl_RankOf a.1 a.2⟩
noncomputable def v_impl_RankOf : Env := { ti := look tab, Γ := fns [(67, [], e_impl_Hash), (66, [], e_impl_Mod)], loop := fun _ => none, cut := fun _ => none, deep := fun _ => false }
theorem c_impl_RankOf : Contract Try.prog 56 e_impl_RankOf.sig e_impl_RankOf.F :=
  den_is (E := v_impl_RankOf) ⟨tab_ti, tab_eq⟩ (fns_cons c_impl_Hash (fns_cons c_impl_Mod (fns_nil _))) mixed Try.func56 (by kernel_rfl) (by kernel_rfl) (fun x => by kernel_rfl)

def s_cmp_isNaN_int : Sig := { params := [.val false y3], res := [.val false y4] }
noncomputable def e_cmp_isNaN_int : Entry := ⟨s_cmp_isNaN_int, fun a => D.cmp_isNaN_int a⟩
noncomputable def v_cmp_isNaN_int : Env := { ti := look tab, Γ := fns [], loop := fun _ => none, cut := fun _ => none, deep := fun _ => false }
theorem c_cmp_isNaN_int : Contract Try.prog 65 e_cmp_isNaN_int.sig e_cmp_isNaN_int.F :=
  den_is (E := v_cmp_isNaN_int) ⟨tab_ti, tab_eq⟩ (fns_nil _) mixed Try.func65 (by kernel_rfl) (by kernel_rfl) (fun x => by kernel_rfl)

def s_cmp_Compare_int : Sig := { params := [.val false y3, .val false y3], res := [.val false y3] }
noncomputable def e_cmp_Compare_int : Entry := ⟨s_cmp_Compare_int, fun a => D.cmp_Compare_int a.1 a.2⟩
noncomputable def v_cmp_Compare_int : Env := { ti := look tab, Γ := fns [(65, [], e_cmp_isNaN_int)], loop := fun _ => none, cut := fun _ => none, deep := fun _ => false }
theorem c_cmp_Compare_int : Contract Try.prog 55 e_cmp_Compare_int.sig e_cmp_Compare_int.F :=
  den_is (E := v_cmp_Compare_int) ⟨tab_ti, tab_eq⟩ (fns_cons c_cmp_isNaN_int (fns_nil _)) mixed Try.func55 (by kernel_rfl) (by kernel_rfl) (fun x => by kernel_rfl)

def s_impl_OrderFor_1 : Sig := { params := [.val false y3, .val false y3, .cptr y3], res := [.val false y3] }
noncomputable def e_impl_OrderFor_1 : Entry := ⟨s_impl_OrderFor_1, fun a => D.impl_OrderFor_1 a.1 a.2.1 a.2.2⟩
noncomputable def v_impl_OrderFor_1 : Env := { ti := look tab, Γ := fns [(56, [], e_impl_RankOf), (55, [], e_cmp_Compare_int)], loop := fun _ => none, cut := fun _ => none, deep := fun _ => false }
theorem c_impl_OrderFor_1 : Contract Try.prog 54 e_impl_OrderFor_1.sig e_impl_OrderFor_1.F :=
  den_is (E := v_impl_OrderFor_1) ⟨tab_ti, tab_eq⟩ (fns_cons c_impl_RankOf (fns_cons c_cmp_Compare_int (fns_nil _))) mixed Try.func54 (by kernel_rfl) (by kernel_rfl) (fun x => by kernel_rfl)

def s_slices_insertionSortCmpFunc_int_impl_OrderFor_1 : Sig := { params := [.io 3 y3, .val false y3, .val false y3, .fn 54 [y3]], res := [] }
noncomputable def e_slices_insertionSortCmpFunc_int_impl_OrderFor_1 : Entry := ⟨s_slices_insertionSortCmpFunc_int_impl_OrderFor_1, fun a => D.slices_insertionSortCmpFunc_int_impl_OrderFor_1 a.1 a.2.1 a.2.2.1 a.2.2.2⟩
noncomputable def v_slices_insertionSortCmpFunc_int_impl_OrderFor_1 : Env := { ti := look tab, Γ := fns [(54, [], e_impl_OrderFor_1)], loop := fun b => match b with | 0 => some [.slot 8 (.int .i64), .vec 0 3 y3 true] | 2 => some [.slot 9 (.int .i64), .vec 0 3 y3 true] | _ => none, cut := fun _ => none, deep := fun _ => false }
theorem c_slices_insertionSortCmpFunc_int_impl_OrderFor_1 : Contract Try.prog 77 e_slices_insertionSortCmpFunc_int_impl_OrderFor_1.sig e_slices_insertionSortCmpFunc_int_impl_OrderFor_1.F :=
  den_is (E := v_slices_insertionSortCmpFunc_int_impl_OrderFor_1) ⟨tab_ti, tab_eq⟩ (fns_cons c_impl_OrderFor_1 (fns_nil _)) mixed Try.func77 (by kernel_rfl) (by kernel_rfl) (fun x => by kernel_rfl)

def s_slices_swapRangeCmpFunc_int_impl_OrderFor_1 : Sig := { params := [.io 3 y3, .val false y3, .val false y3, .val false y3, .fn 54 [y3]], res := [] }
noncomputable def e_slices_swapRangeCmpFunc_int_impl_OrderFor_1 : Entry := ⟨s_slices_swapRangeCmpFunc_int_impl_OrderFor_1, fun a => D.slices_swapRangeCmpFunc_int_impl_OrderFor_1 a.1 a.2.1 a.2.2.1 a.2.2.2.1 a.2.2.2.2⟩
noncomputable def v_slices_swapRangeCmpFunc_int_impl_OrderFor_1 : Env := { ti := look tab, Γ := fns [], loop := fun b => match b with | 0 => some [.slot 10 (.int .i64), .vec 0 3 y3 true] | _ => none, cut := fun _ => none, deep := fun _ => false }
theorem c_slices_swapRangeCmpFunc_int_impl_OrderFor_1 : Contract Try.prog 99 e_slices_swapRangeCmpFunc_int_impl_OrderFor_1.sig e_slices_swapRangeCmpFunc_int_impl_OrderFor_1.F :=
  den_is (E := v_slices_swapRangeCmpFunc_int_impl_OrderFor_1) ⟨tab_ti, tab_eq⟩ (fns_nil _) mixed Try.func99 (by kernel_rfl) (by kernel_rfl) (fun x => by kernel_rfl)

def s_slices_rotateCmpFunc_int_impl_OrderFor_1 : Sig := { params := [.io 3 y3, .val false y3, .val false y3, .val false y3, .fn 54 [y3]], res := [] }
noncomputable def e_slices_rotateCmpFunc_int_impl_OrderFor_1 : Entry := ⟨s_slices_rotateCmpFunc_int_impl_OrderFor_1, fun a => D.slices_rotateCmpFunc_int_impl_OrderFor_1 a.1 a.2.1 a.2.2.1 a.2.2.2.1 a.2.2.2.2⟩
noncomputable def v_slices_rotateCmpFunc_int_impl_OrderFor_1 : Env := { ti := look tab, Γ := fns [(99, [54], e_slices_swapRangeCmpFunc_int_impl_OrderFor_1)], loop := fun b => match b with | 0 => some [.slot 10 (.int .i64), .slot 11 (.int .i64), .vec 0 3 y3 true] | _ => none, cut := fun _ => none, deep := fun _ => false }
theorem c_slices_rotateCmpFunc_int_impl_OrderFor_1 : Contract Try.prog 92 e_slices_rotateCmpFunc_int_impl_OrderFor_1.sig e_slices_rotateCmpFunc_int_impl_OrderFor_1.F :=
  den_is (E := v_slices_rotateCmpFunc_int_impl_OrderFor_1) ⟨tab_ti, tab_eq⟩ (fns_cons c_slices_swapRangeCmpFunc_int_impl_OrderFor_1 (fns_nil _)) mixed Try.func92 (by kernel_rfl) (by kernel_rfl) (fun x => by kernel_rfl)

def s_slices_symMergeCmpFunc_int_impl_OrderFor_1 : Sig := { params := [.io 3 y3, .val false y3, .val false y3, .val false y3, .fn 54 [y3]], res := [] }
noncomputable def e_slices_symMergeCmpFunc_int_impl_OrderFor_1 : Entry := ⟨s_slices_symMergeCmpFunc_int_impl_OrderFor_1, fun a => D.slices_symMergeCmpFunc_int_impl_OrderFor_1 a.1 a.2.1 a.2.2.1 a.2.2.2.1 a.2.2.2.2⟩
noncomputable def v_slices_symMergeCmpFunc_int_impl_OrderFor_1 (n : Nat) : Env := { ti := look tab, Γ := fns [(54, [], e_impl_OrderFor_1), (92, [54], e_slices_rotateCmpFunc_int_impl_OrderFor_1), (78, [54], ⟨s_slices_symMergeCmpFunc_int_impl_OrderFor_1, fun a => D.slices_symMergeCmpFunc_int_impl_OrderFor_1_f n a.1 a.2.1 a.2.2.1 a.2.2.2.1 a.2.2.2.2⟩)], loop := fun b => match b with | 0 => some [.slot 10 (.int .i64), .slot 11 (.int .i64)] | 2 => some [.slot 13 (.int .i64), .vec 0 3 y3 true] | 4 => some [.slot 14 (.int .i64), .slot 15 (.int .i64)] | 6 => some [.slot 17 (.int .i64), .vec 0 3 y3 true] | 8 => some [.slot 20 (.int .i64), .slot 21 (.int .i64)] | _ => none, cut := fun _ => none, deep := fun _ => false }
theorem cf_slices_symMergeCmpFunc_int_impl_OrderFor_1 : ∀ n : Nat, Contract Try.prog 78 s_slices_symMergeCmpFunc_int_impl_OrderFor_1 (fun a => D.slices_symMergeCmpFunc_int_impl_OrderFor_1_f n a.1 a.2.1 a.2.2.1 a.2.2.2.1 a.2.2.2.2)
  | 0 => ⟨⟨_, Try.func78, by kernel_rfl, by kernel_rfl⟩, fun a out w S lent cx vals hF => by cases hF⟩
  | n + 1 => have ih := cf_slices_symMergeCmpFunc_int_impl_OrderFor_1 n; den_is (E := v_slices_symMergeCmpFunc_int_impl_OrderFor_1 n) ⟨tab_ti, tab_eq⟩ (fns_cons c_impl_OrderFor_1 (fns_cons c_slices_rotateCmpFunc_int_impl_OrderFor_1 (fns_cons ih (fns_nil _)))) mixed Try.func78 (by kernel_rfl) (by kernel_rfl) (fun x => by kernel_rfl)
theorem c_slices_symMergeCmpFunc_int_impl_OrderFor_1 : Contract Try.prog 78 e_slices_symMergeCmpFunc_int_impl_OrderFor_1.sig e_slices_symMergeCmpFunc_int_impl_OrderFor_1.F := ⟨(cf_slices_symMergeCmpFunc_int_impl_OrderFor_1 0).1, fun a => (cf_slices_symMergeCmpFunc_int_impl_OrderFor_1 (a.1.length + 1)).2 a⟩

def s_slices_stableCmpFunc_int_impl_OrderFor_1 : Sig := { params := [.io 3 y3, .val false y3, .fn 54 [y3]], res := [] }
noncomputable def e_slices_stableCmpFunc_int_impl_OrderFor_1 : Entry := ⟨s_slices_stableCmpFunc_int_impl_OrderFor_1, fun a => D.slices_stableCmpFunc_int_impl_OrderFor_1 a.1 a.2.1 a.2.2⟩
noncomputable def v_slices_stableCmpFunc_int_impl_OrderFor_1 : Env := { ti := look tab, Γ := fns [(77, [54], e_slices_insertionSortCmpFunc_int_impl_OrderFor_1), (78, [54], e_slices_symMergeCmpFunc_int_impl_OrderFor_1)], loop := fun b => match b with | 0 => some [.slot 7 (.int .i64), .slot 8 (.int .i64), .vec 0 3 y3 true] | 2 => some [.slot 6 (.int .i64), .vec 0 3 y3 true] | 4 => some [.slot 7 (.int .i64), .slot 8 (.int .i64), .vec 0 3 y3 true] | _ => none, cut := fun _ => none, deep := fun _ => false }
theorem c_slices_stableCmpFunc_int_impl_OrderFor_1 : Contract Try.prog 64 e_slices_stableCmpFunc_int_impl_OrderFor_1.sig e_slices_stableCmpFunc_int_impl_OrderFor_1.F :=
  den_is (E := v_slices_stableCmpFunc_int_impl_OrderFor_1) ⟨tab_ti, tab_eq⟩ (fns_cons c_slices_insertionSortCmpFunc_int_impl_OrderFor_1 (fns_cons c_slices_symMergeCmpFunc_int_impl_OrderFor_1 (fns_nil _))) mixed Try.func64 (by kernel_rfl) (by kernel_rfl) (fun x => by kernel_rfl)

def s_slices_SortStableFunc_int_impl_OrderFor_1 : Sig := { params := [.io 3 y3, .fn 54 [y3]], res := [] }
noncomputable def e_slices_SortStableFunc_int_impl_OrderFor_1 : Entry := ⟨s_slices_SortStableFunc_int_impl_OrderFor_1, fun a => D.slices_SortStableFunc_int_impl_OrderFor_1 a.1 a.2⟩
noncomputable def v_slices_SortStableFunc_int_impl_OrderFor_1 : Env := { ti := look tab, Γ := fns [(64, [54], e_slices_stableCmpFunc_int_impl_OrderFor_1)], loop := fun _ => none, cut := fun _ => none, deep := fun _ => false }
theorem c_slices_SortStableFunc_int_impl_OrderFor_1 : Contract Try.prog 53 e_slices_SortStableFunc_int_impl_OrderFor_1.sig e_slices_SortStableFunc_int_impl_OrderFor_1.F :=
  den_is (E := v_slices_SortStableFunc_int_impl_OrderFor_1) ⟨tab_ti, tab_eq⟩ (fns_cons c_slices_stableCmpFunc_int_impl_OrderFor_1 (fns_nil _)) mixed Try.func53 (by kernel_rfl) (by kernel_rfl) (fun x => by kernel_rfl)

def s_impl_OrderFor : Sig := { params := [.val false y35, .val false y3], res := [.row 3 y3 false] }
noncomputable def e_impl_OrderFor : Entry := ⟨s_impl_OrderFor, fun a => D.impl_OrderFor a.1 a.2⟩
noncomputable def v_impl_OrderFor : Env := { ti := look tab, Γ := fns [(52, [], e_impl_sorted), (53, [54], e_slices_SortStableFunc_int_impl_OrderFor_1)], loop := fun _ => none, cut := fun _ => none, deep := fun _ => false }
theorem c_impl_OrderFor : Contract Try.prog 31 e_impl_OrderFor.sig e_impl_OrderFor.F :=
  den_is (E := v_impl_OrderFor) ⟨tab_ti, tab_eq⟩ (fns_cons c_impl_sorted (fns_cons c_slices_SortStableFunc_int_impl_OrderFor_1 (fns_nil _))) mixed Try.func31 (by kernel_rfl) (by kernel_rfl) (fun x => by kernel_rfl)

def s_impl_HoldersOf : Sig := { params := [.val false y24, .val false y3], res := [.row 3 y3 false] }
noncomputable def e_impl_HoldersOf : Entry := ⟨s_impl_HoldersOf, fun a => D.impl_HoldersOf a.1 a.2⟩
noncomputable def v_impl_HoldersOf : Env := { ti := look tab, Γ := fns [(30, [], e_slices_Contains_int)], loop := fun b => match b with | 0 => some [.slot 5 (.own 3 y3 false), .slot 10 (.int .i64)] | _ => none, cut := fun _ => none, deep := fun _ => false }
theorem c_impl_HoldersOf : Contract Try.prog 15 e_impl_HoldersOf.sig e_impl_HoldersOf.F :=
  den_is (E := v_impl_HoldersOf) ⟨tab_ti, tab_eq⟩ (fns_cons c_slices_Contains_int (fns_nil _)) mixed Try.func15 (by kernel_rfl) (by kernel_rfl) (fun x => by kernel_rfl)

def s_impl_RepairCopies_1 : Sig := { params := [.val true y37, .cptr y3], res := [.val false y4] }
noncomputable def e_impl_RepairCopies_1 : Entry := ⟨s_impl_RepairCopies_1, fun a => D.impl_RepairCopies_1 a.1 a.2⟩
noncomputable def v_impl_RepairCopies_1 : Env := { ti := look tab, Γ := fns [], loop := fun _ => none, cut := fun _ => none, deep := fun _ => false }
theorem c_impl_RepairCopies_1 : Contract Try.prog 33 e_impl_RepairCopies_1.sig e_impl_RepairCopies_1.F :=
  den_is (E := v_impl_RepairCopies_1) ⟨tab_ti, tab_eq⟩ (fns_nil _) mixed Try.func33 (by kernel_rfl) (by kernel_rfl) (fun x => by kernel_rfl)

def s_slices_IndexFunc_Library_impl_RepairCopies_1 : Sig := { params := [.val false y24, .fn 33 [y3]], res := [.val false y3] }
noncomputable def e_slices_IndexFunc_Library_impl_RepairCopies_1 : Entry := ⟨s_slices_IndexFunc_Library_impl_RepairCopies_1, fun a => D.slices_IndexFunc_Library_impl_RepairCopies_1 a.1 a.2⟩
noncomputable def v_slices_IndexFunc_Library_impl_RepairCopies_1 : Env := { ti := look tab, Γ := fns [(33, [], e_impl_RepairCopies_1)], loop := fun b => match b with | 0 => some [.slot 8 (.int .i64)] | _ => none, cut := fun _ => none, deep := fun _ => false }
theorem c_slices_IndexFunc_Library_impl_RepairCopies_1 : Contract Try.prog 32 e_slices_IndexFunc_Library_impl_RepairCopies_1.sig e_slices_IndexFunc_Library_impl_RepairCopies_1.F :=
  den_is (E := v_slices_IndexFunc_Library_impl_RepairCopies_1) ⟨tab_ti, tab_eq⟩ (fns_cons c_impl_RepairCopies_1 (fns_nil _)) mixed Try.func32 (by kernel_rfl) (by kernel_rfl) (fun x => by kernel_rfl)

def s_impl_withDigest : Sig := { params := [.val false y35, .val false y3], res := [.row 3 y3 true] }
noncomputable def e_impl_withDigest : Entry := ⟨s_impl_withDigest, fun a => D.impl_withDigest a.1 a.2⟩
theorem c_impl_withDigest : Contract Try.prog 34 e_impl_withDigest.sig e_impl_withDigest.F := Eq.mp (by kernel_rfl) (Go.Proofs.Ytekclbjiifiahab.Ex.withDigest_is)

def s_impl_RepairCopies : Sig := { params := [.val false y24, .val false y3, .val false y3], res := [.row 37 y37 true, .val false y4] }
noncomputable def e_impl_RepairCopies : Entry := ⟨s_impl_RepairCopies, fun a => D.impl_RepairCopies a.1 a.2.1 a.2.2⟩
noncomputable def v_impl_RepairCopies : Env := { ti := look tab, Γ := fns [(29, [], e_impl_copyLibraries), (16, [], e_impl_AreLibraries), (18, [], e_impl_GoodCopies), (30, [], e_slices_Contains_int), (31, [], e_impl_OrderFor), (15, [], e_impl_HoldersOf), (32, [33], e_slices_IndexFunc_Library_impl_RepairCopies_1), (34, [], e_impl_withDigest)], loop := fun b => match b with | 0 => some [.slot 9 (.own 3 y3 false), .slot 29 (.int .i64)] | 2 => some [.slot 52 (.int .i64), .vec 8 37 y37 true] | _ => none, cut := fun _ => none, deep := fun _ => false }
theorem c_impl_RepairCopies : Contract Try.prog 8 e_impl_RepairCopies.sig e_impl_RepairCopies.F :=
  den_is (E := v_impl_RepairCopies) ⟨tab_ti, tab_eq⟩ (fns_cons c_impl_copyLibraries (fns_cons c_impl_AreLibraries (fns_cons c_impl_GoodCopies (fns_cons c_slices_Contains_int (fns_cons c_impl_OrderFor (fns_cons c_impl_HoldersOf (fns_cons c_slices_IndexFunc_Library_impl_RepairCopies_1 (fns_cons c_impl_withDigest (fns_nil _))))))))) mixed Try.func8 (by kernel_rfl) (by kernel_rfl) (fun x => by kernel_rfl)

def s_laws_eqIntS : Sig := { params := [.val false y35, .val false y35], res := [.val false y4] }
noncomputable def e_laws_eqIntS : Entry := ⟨s_laws_eqIntS, fun a => D.laws_eqIntS a.1 a.2⟩
noncomputable def v_laws_eqIntS : Env := { ti := look tab, Γ := fns [], loop := fun b => match b with | 0 => some [.slot 5 (.int .i64)] | _ => none, cut := fun _ => none, deep := fun _ => false }
theorem c_laws_eqIntS : Contract Try.prog 58 e_laws_eqIntS.sig e_laws_eqIntS.F :=
  den_is (E := v_laws_eqIntS) ⟨tab_ti, tab_eq⟩ (fns_nil _) mixed Try.func58 (by kernel_rfl) (by kernel_rfl) (fun x => by kernel_rfl)

def s_laws_eqLibrary : Sig := { params := [.val true y37, .val true y37], res := [.val false y4] }
noncomputable def e_laws_eqLibrary : Entry := ⟨s_laws_eqLibrary, fun a => D.laws_eqLibrary a.1 a.2⟩
noncomputable def v_laws_eqLibrary : Env := { ti := look tab, Γ := fns [(58, [], e_laws_eqIntS)], loop := fun _ => none, cut := fun _ => none, deep := fun _ => false }
theorem c_laws_eqLibrary : Contract Try.prog 35 e_laws_eqLibrary.sig e_laws_eqLibrary.F :=
  den_is (E := v_laws_eqLibrary) ⟨tab_ti, tab_eq⟩ (fns_cons c_laws_eqIntS (fns_nil _)) mixed Try.func35 (by kernel_rfl) (by kernel_rfl) (fun x => by kernel_rfl)

def s_laws_eqLibraryS : Sig := { params := [.val false y24, .val false y24], res := [.val false y4] }
noncomputable def e_laws_eqLibraryS : Entry := ⟨s_laws_eqLibraryS, fun a => D.laws_eqLibraryS a.1 a.2⟩
noncomputable def v_laws_eqLibraryS : Env := { ti := look tab, Γ := fns [(35, [], e_laws_eqLibrary)], loop := fun b => match b with | 0 => some [.slot 5 (.int .i64)] | _ => none, cut := fun _ => none, deep := fun _ => false }
theorem c_laws_eqLibraryS : Contract Try.prog 9 e_laws_eqLibraryS.sig e_laws_eqLibraryS.F :=
  den_is (E := v_laws_eqLibraryS) ⟨tab_ti, tab_eq⟩ (fns_cons c_laws_eqLibrary (fns_nil _)) mixed Try.func9 (by kernel_rfl) (by kernel_rfl) (fun x => by kernel_rfl)

def s_laws_markIntS : Sig := { params := [.io 3 y3, .val false y3], res := [.val false y3] }
noncomputable def e_laws_markIntS : Entry := ⟨s_laws_markIntS, fun a => D.laws_markIntS a.1 a.2⟩
noncomputable def v_laws_markIntS : Env := { ti := look tab, Γ := fns [], loop := fun b => match b with | 0 => some [.slot 1 (.int .i64), .slot 5 (.int .i64), .vec 0 3 y3 true] | _ => none, cut := fun _ => none, deep := fun _ => false }
theorem c_laws_markIntS : Contract Try.prog 36 e_laws_markIntS.sig e_laws_markIntS.F :=
  den_is (E := v_laws_markIntS) ⟨tab_ti, tab_eq⟩ (fns_nil _) mixed Try.func36 (by kernel_rfl) (by kernel_rfl) (fun x => by kernel_rfl)

def s_laws_markLibraryS : Sig := { params := [.io 37 y37, .val false y3], res := [.val false y3] }
noncomputable def e_laws_markLibraryS : Entry := ⟨s_laws_markLibraryS, fun a => D.laws_markLibraryS a.1 a.2⟩
noncomputable def v_laws_markLibraryS : Env := { ti := look tab, Γ := fns [(36, [], e_laws_markIntS)], loop := fun b => match b with | 0 => some [.slot 1 (.int .i64), .slot 5 (.int .i64), .vec 0 37 y37 true] | _ => none, cut := fun _ => none, deep := fun _ => false }
theorem c_laws_markLibraryS : Contract Try.prog 10 e_laws_markLibraryS.sig e_laws_markLibraryS.F :=
  den_is (E := v_laws_markLibraryS) ⟨tab_ti, tab_eq⟩ (fns_cons c_laws_markIntS (fns_nil _)) mixed Try.func10 (by kernel_rfl) (by kernel_rfl) (fun x => by kernel_rfl)

def s_laws_heldIntS : Sig := { params := [.val false y35, .val false y3], res := [.val false y3] }
noncomputable def e_laws_heldIntS : Entry := ⟨s_laws_heldIntS, fun a => D.laws_heldIntS a.1 a.2⟩
noncomputable def v_laws_heldIntS : Env := { ti := look tab, Γ := fns [], loop := fun b => match b with | 0 => some [.slot 1 (.int .i64), .slot 5 (.int .i64)] | _ => none, cut := fun _ => none, deep := fun _ => false }
theorem c_laws_heldIntS : Contract Try.prog 37 e_laws_heldIntS.sig e_laws_heldIntS.F :=
  den_is (E := v_laws_heldIntS) ⟨tab_ti, tab_eq⟩ (fns_nil _) mixed Try.func37 (by kernel_rfl) (by kernel_rfl) (fun x => by kernel_rfl)

def s_laws_heldLibraryS : Sig := { params := [.val false y24, .val false y3], res := [.val false y3] }
noncomputable def e_laws_heldLibraryS : Entry := ⟨s_laws_heldLibraryS, fun a => D.laws_heldLibraryS a.1 a.2⟩
noncomputable def v_laws_heldLibraryS : Env := { ti := look tab, Γ := fns [(37, [], e_laws_heldIntS)], loop := fun b => match b with | 0 => some [.slot 1 (.int .i64), .slot 5 (.int .i64)] | _ => none, cut := fun _ => none, deep := fun _ => false }
theorem c_laws_heldLibraryS : Contract Try.prog 11 e_laws_heldLibraryS.sig e_laws_heldLibraryS.F :=
  den_is (E := v_laws_heldLibraryS) ⟨tab_ti, tab_eq⟩ (fns_cons c_laws_heldIntS (fns_nil _)) mixed Try.func11 (by kernel_rfl) (by kernel_rfl) (fun x => by kernel_rfl)

def s_laws_FnExactRepairCopies : Sig := { params := [.val false y22, .val false y3, .val false y3], res := [.val false y4] }
noncomputable def e_laws_FnExactRepairCopies : Entry := ⟨s_laws_FnExactRepairCopies, fun a => D.laws_FnExactRepairCopies a.1 a.2.1 a.2.2⟩
noncomputable def v_laws_FnExactRepairCopies : Env := { ti := look tab, Γ := fns [(5, [], e_laws_szLibraryS), (7, [], e_laws_toLibraryS), (6, [], e_spec_RepairCopies), (8, [], e_impl_RepairCopies), (9, [], e_laws_eqLibraryS), (10, [], e_laws_markLibraryS), (11, [], e_laws_heldLibraryS)], loop := fun _ => none, cut := fun _ => none, deep := fun _ => false }
theorem c_laws_FnExactRepairCopies : Contract Try.prog 3 e_laws_FnExactRepairCopies.sig e_laws_FnExactRepairCopies.F :=
  den_is (E := v_laws_FnExactRepairCopies) ⟨tab_ti, tab_eq⟩ (fns_cons c_laws_szLibraryS (fns_cons c_laws_toLibraryS (fns_cons c_spec_RepairCopies (fns_cons c_impl_RepairCopies (fns_cons c_laws_eqLibraryS (fns_cons c_laws_markLibraryS (fns_cons c_laws_heldLibraryS (fns_nil _)))))))) mixed Try.func3 (by kernel_rfl) (by kernel_rfl) (fun x => by kernel_rfl)

theorem law_true (a : Tup (s_laws_FnExactRepairCopies.params.map PTy.den)) (hok : argsOk Try.prog s_laws_FnExactRepairCopies.params a) : D.laws_FnExactRepairCopies a.1 a.2.1 a.2.2 = some true := D.FnExactRepairCopies_true a.1 a.2.1 a.2.2 (Ty.ok_bd (P := Try.prog) (t := y22) (by kernel_rfl) hok.1) (Ty.ok_bd (P := Try.prog) (t := y3) (by kernel_rfl) hok.2.1) (Ty.ok_bd (P := Try.prog) (t := y3) (by kernel_rfl) hok.2.2.1)
theorem lifted (os : Os) (started : os.Started) (H : Type) (enc : TypeId × Value → H) :
    ReturnsInHanded {} Try.checked os 3 .any (Rows.fnExactRepairCopiesSpec.pre6 enc Try.prog Try.f3 Rows.fnExactRepairCopiesRow.domain false) (Rows.fnExactRepairCopiesSpec.post enc Try.prog Try.f3 false true false false) := by
  refine returnsInHanded_of_change_sized (C := Try.checked) (by kernel_rfl) started (by kernel_rfl) Try.func3
    (ChangeSpec.witness6 (enc := enc) (C := Try.checked) false ⟨#[], #[.slice none 0 0, .int .i64 0, .int .i64 0], []⟩ 8 (by kernel_rfl) (by kernel_rfl) (by kernel_rfl) (by kernel_rfl)) ?_
  intro W base args ds gs before hval hW hcnd hsz _
  exact law_row (C := Try.checked) rfl c_laws_FnExactRepairCopies (N := 8) (by kernel_rfl) (tb := 4) (by kernel_rfl) (by kernel_rfl) (by kernel_rfl) (by kernel_rfl) rfl
    (fun ds h => by
      have h : ds.length = 3 := h
      match ds, h with
      | [d0, d1, d2], _ => rfl)
    bulky_sizeOf (small := fun _ => True) (fun a ds hok _ _ => ⟨_, law_true a hok, rfl⟩) hval hW hsz trivial trivial

theorem over : Rows.fnExactRepairCopiesRow.holds Try.pinned (OpenSpec.ofChange Rows.fnExactRepairCopiesSpec) :=
  OpenClaim.holds_of_wide 3 Try.f3 rfl rfl rfl rfl rfl rfl rfl ⟨rfl, rfl, rfl, rfl, rfl⟩ rfl rfl rfl rfl rfl (by kernel_rfl) Try.func3 (by kernel_rfl)
    (of_decide_eq_true (by kernel_rfl)) (by unfold Func.isWrapper; first | (rw [if_pos (by decide +kernel)]; kernel_rfl) | (rw [if_neg (by decide +kernel)]; exact ⟨rfl, rfl⟩))
    (fun os started H enc _ => lifted os started H enc)
end Go.Proofs.Ytekclbjiifiahab.SxFnExactRepairCopies
namespace Go.Proofs.Ytekclbjiifiahab
theorem fnExactRepairCopies_holds : Rows.FnExactRepairCopiesSaid := SxFnExactRepairCopies.over
end Go.Proofs.Ytekclbjiifiahab
