/- FnMigrated returns true for every input, and each input reads as it did. No condition. -/
import Derived.Test.YtfipolbgkppdjaaGreatDoorRows
import Derived.Test.YtfipolbgkppdjaaGreatDoorPuFnMigrated
import Derived.Test.YtfipolbgkppdjaaGreatDoorEx
import Derived.WalkKit
import Derived.ProofKit
import Derived.ShutString
import Derived.SizedLaws
import Derived.Test.YtfipolbgkppdjaaGreatDoorCards
import Derived.Test.YtfipolbgkppdjaaGreatDoorTie
import Derived.SevenTiedAt
import Derived.JoinedCond
import Derived.Deep.DeepHandedRow
set_option linter.unusedVariables false
set_option maxRecDepth 100000
set_option maxHeartbeats 4000000
namespace Go.Proofs.YtfipolbgkppdjaaGreatDoor.SxFnMigrated
open Go Go.Sh Go.RowKit
-- the laid tables: the instance of Ex
def y3 : Ty := .int .i64
def y4 : Ty := .bool
def y5 : Ty := .int .u8
def y9 : Ty := .str
def y22 : Ty := .slice 5 y5
def y60 : Ty := .pair y3 (.pair y3 (.pair y3 y3))
def y24 : Ty := .slice 60 y60
def y68 : Ty := .pair y3 (.pair y3 y3)
def y26 : Ty := .slice 3 y3
def y95 : Ty := .pair y3 (.pair y26 y68)
def y97 : Ty := .pair y68 (.pair y3 y95)
def y25 : Ty := .slice 97 y97
def y28 : Ty := .pair y25 (.pair y3 (.pair y3 y26))
def y73 : Ty := .pair y3 (.pair y68 y3)
def y31 : Ty := .slice 73 y73
def y33 : Ty := .pair y3 (.pair y26 (.pair y26 y26))
def y40 : Ty := .slice 26 y26
def y47 : Ty := .pair y3 (.pair y3 y33)
def y54 : Ty := .slice 33 y33
def y70 : Ty := .pair y3 y68
def y83 : Ty := .slice 9 y9
def y87 : Ty := .pair y22 (.pair y3 y3)
def y119 : Ty := .slice 68 y68
def tab : List (TypeId × TI) := [(3, { size := 1, bytes := 8, agg := false, ty := some y3 }),
  (4, { size := 1, bytes := 1, agg := false, ty := some y4 }),
  (5, { size := 1, bytes := 1, agg := false, ty := some y5 }),
  (9, { size := 1, bytes := 16, agg := false, ty := some y9 }),
  (22, { size := 1, bytes := 24, agg := false, ty := some y22, elem := some 5 }),
  (60, { size := 4, bytes := 32, agg := true, ty := some y60, fields := [(0, 3), (1, 3), (2, 3), (3, 3)] }),
  (24, { size := 1, bytes := 24, agg := false, ty := some y24, elem := some 60 }),
  (68, { size := 3, bytes := 24, agg := true, ty := some y68, fields := [(0, 3), (1, 3), (2, 3)], eq := true }),
  (26, { size := 1, bytes := 24, agg := false, ty := some y26, elem := some 3 }),
  (95, { size := 5, bytes := 56, agg := true, ty := some y95, fields := [(0, 3), (1, 26), (2, 68)] }),
  (97, { size := 9, bytes := 88, agg := true, ty := some y97, fields := [(0, 68), (3, 3), (4, 95)] }),
  (25, { size := 1, bytes := 24, agg := false, ty := some y25, elem := some 97 }),
  (28, { size := 4, bytes := 64, agg := true, ty := some y28, fields := [(0, 25), (1, 3), (2, 3), (3, 26)] }),
  (73, { size := 5, bytes := 40, agg := true, ty := some y73, fields := [(0, 3), (1, 68), (4, 3)], eq := true }),
  (31, { size := 1, bytes := 24, agg := false, ty := some y31, elem := some 73 }),
  (33, { size := 4, bytes := 80, agg := true, ty := some y33, fields := [(0, 3), (1, 26), (2, 26), (3, 26)] }),
  (40, { size := 1, bytes := 24, agg := false, ty := some y40, elem := some 26 }),
  (47, { size := 6, bytes := 96, agg := true, ty := some y47, fields := [(0, 3), (1, 3), (2, 33)] }),
  (54, { size := 1, bytes := 24, agg := false, ty := some y54, elem := some 33 }),
  (70, { size := 4, bytes := 32, agg := true, ty := some y70, fields := [(0, 3), (1, 68)] }),
  (83, { size := 1, bytes := 24, agg := false, ty := some y83, elem := some 9 }),
  (87, { size := 3, bytes := 40, agg := true, ty := some y87, fields := [(0, 22), (1, 3), (2, 3)] }),
  (119, { size := 1, bytes := 24, agg := false, ty := some y119, elem := some 68 })]
def look : List (TypeId × TI) → TypeId → Option TI
  | [], _ => none
  | (k, i) :: r, t => if Nat.beq t k = true then some i else look r t
theorem look_ok {P : Program} : ∀ {l : List (TypeId × TI)}, (l.all fun p => tiOk P p.1 p.2) = true → ∀ t i, look l t = some i → tiOk P t i = true
  | [], _, t, i, h => by simp [look] at h
  | (k, j) :: r, h0, t, i, h => by
    simp only [List.all_cons, Bool.and_eq_true] at h0
    simp only [look] at h
    split at h
    · rename_i hk
      simp only [Option.some.injEq] at h
      have := Nat.eq_of_beq_eq_true hk
      subst this; subst h; exact h0.1
    · exact look_ok h0.2 t i h
theorem look_eq {P : Program} : ∀ {l : List (TypeId × TI)}, (l.all fun p => !p.2.eq || eqTop P p.1 p.2.ty) = true → ∀ t i, look l t = some i → i.eq = true → ∀ ty, i.ty = some ty → EqLaw P t ty.zero
  | [], _, t, i, h => by simp [look] at h
  | (k, j) :: r, h0, t, i, h => by
    simp only [List.all_cons, Bool.and_eq_true, Bool.or_eq_true, Bool.not_eq_true'] at h0
    simp only [look] at h
    split at h
    · rename_i hk
      simp only [Option.some.injEq] at h
      have := Nat.eq_of_beq_eq_true hk
      subst this; subst h
      intro he
      exact eqLaw_of (h0.1.resolve_left (by simp [he]))
    · exact look_eq h0.2 t i h
def same : List Nat → List Nat → Bool
  | [], [] => true
  | a :: x, b :: y => Nat.beq a b && same x y
  | _, _ => false
theorem same_eq : ∀ {x y : List Nat}, same x y = true → x = y
  | [], [], _ => rfl
  | a :: x, b :: y, h => by
    simp only [same, Bool.and_eq_true] at h
    rw [Nat.eq_of_beq_eq_true h.1, same_eq h.2]
  | [], _ :: _, h => by simp [same] at h
  | _ :: _, [], h => by simp [same] at h
def fns : List (FuncId × List FuncId × Entry) → FuncId → List FuncId → Option Entry
  | [], _, _ => none
  | (k, c, e) :: r, f, fs => if (Nat.beq f k && same fs c) = true then some e else fns r f fs
theorem fns_nil (P : Program) : ∀ f fs en, fns [] f fs = some en → Contract P f en.sig en.F := fun f fs en h => by simp [fns] at h
theorem fns_cons {P : Program} {k : FuncId} {c : List FuncId} {e : Entry} {r : List (FuncId × List FuncId × Entry)} (hk : Contract P k e.sig e.F) (hr : ∀ f fs en, fns r f fs = some en → Contract P f en.sig en.F) : ∀ f fs en, fns ((k, c, e) :: r) f fs = some en → Contract P f en.sig en.F := fun f fs en h => by
  simp only [fns] at h
  split at h
  · rename_i hf
    simp only [Bool.and_eq_true] at hf
    simp only [Option.some.injEq] at h
    have := Nat.eq_of_beq_eq_true hf.1
    subst this; subst h; exact hk
  · exact hr f fs en h

theorem tab_ti : ∀ t i, look tab t = some i → tiOk Tryz.prog t i = true := look_ok (by kernel_rfl)
theorem tab_eq : ∀ t i, look tab t = some i → i.eq = true → ∀ ty, i.ty = some ty → EqLaw Tryz.prog t ty.zero := look_eq (by kernel_rfl)
theorem mixed : Tryz.prog.follows .mixedOrders = true := by kernel_rfl
def s_laws_big : Sig := { params := [.val false y22], res := [.val false y4] }
noncomputable def e_laws_big : Entry := ⟨s_laws_big, fun a => D.laws_big a⟩
noncomputable def v_laws_big : Env := { ti := look tab, Γ := fns [], loop := fun _ => none, cut := fun _ => none, deep := fun _ => false }
theorem c_laws_big : Contract Tryz.prog 4 e_laws_big.sig e_laws_big.F :=
  den_is (E := v_laws_big) ⟨tab_ti, tab_eq⟩ (fns_nil _) mixed Tryz.func4 (by kernel_rfl) (by kernel_rfl) (fun x => by kernel_rfl)

def s_spec_l1New : Sig := { params := [.val false y22], res := [.ptr y87] }
noncomputable def e_spec_l1New : Entry := ⟨s_spec_l1New, fun a => D.spec_l1New a⟩
noncomputable def v_spec_l1New : Env := { ti := look tab, Γ := fns [], loop := fun b => match b with | 0 => some [.slot 3 (.int .i64), .slot 4 (.int .i64)] | _ => none, cut := fun _ => none, deep := fun _ => false }
theorem c_spec_l1New : Contract Tryz.prog 17 e_spec_l1New.sig e_spec_l1New.F :=
  den_is (E := v_spec_l1New) ⟨tab_ti, tab_eq⟩ (fns_nil _) mixed Tryz.func17 (by kernel_rfl) (by kernel_rfl) (fun x => by kernel_rfl)

def s_spec_l1Byte : Sig := { params := [.ioptr y87], res := [.val false y3] }
noncomputable def e_spec_l1Byte : Entry := ⟨s_spec_l1Byte, fun a => D.spec_l1Byte a⟩
noncomputable def v_spec_l1Byte : Env := { ti := look tab, Γ := fns [], loop := fun _ => none, cut := fun _ => none, deep := fun _ => false }
theorem c_spec_l1Byte : Contract Tryz.prog 61 e_spec_l1Byte.sig e_spec_l1Byte.F :=
  den_is (E := v_spec_l1Byte) ⟨tab_ti, tab_eq⟩ (fns_nil _) mixed Tryz.func61 (by kernel_rfl) (by kernel_rfl) (fun x => by kernel_rfl)

def s_spec_l1Below : Sig := { params := [.ioptr y87, .val false y3], res := [.val false y3] }
noncomputable def e_spec_l1Below : Entry := ⟨s_spec_l1Below, fun a => D.spec_l1Below a.1 a.2⟩
noncomputable def v_spec_l1Below : Env := { ti := look tab, Γ := fns [(61, [], e_spec_l1Byte)], loop := fun _ => none, cut := fun _ => none, deep := fun _ => false }
theorem c_spec_l1Below : Contract Tryz.prog 37 e_spec_l1Below.sig e_spec_l1Below.F :=
  den_is (E := v_spec_l1Below) ⟨tab_ti, tab_eq⟩ (fns_cons c_spec_l1Byte (fns_nil _)) mixed Tryz.func37 (by kernel_rfl) (by kernel_rfl) (fun x => by kernel_rfl)

def s_spec_l1Once : Sig := { params := [.ioptr y87, .val false y3], res := [.val false y4] }
noncomputable def e_spec_l1Once : Entry := ⟨s_spec_l1Once, fun a => D.spec_l1Once a.1 a.2⟩
noncomputable def v_spec_l1Once : Env := { ti := look tab, Γ := fns [(37, [], e_spec_l1Below)], loop := fun _ => none, cut := fun _ => none, deep := fun _ => false }
theorem c_spec_l1Once : Contract Tryz.prog 83 e_spec_l1Once.sig e_spec_l1Once.F :=
  den_is (E := v_spec_l1Once) ⟨tab_ti, tab_eq⟩ (fns_cons c_spec_l1Below (fns_nil _)) mixed Tryz.func83 (by kernel_rfl) (by kernel_rfl) (fun x => by kernel_rfl)

def s_spec_l10Op : Sig := { params := [.ioptr y87], res := [.val true y60] }
noncomputable def e_spec_l10Op : Entry := ⟨s_spec_l10Op, fun a => D.spec_l10Op a⟩
noncomputable def v_spec_l10Op : Env := { ti := look tab, Γ := fns [(37, [], e_spec_l1Below), (83, [], e_spec_l1Once)], loop := fun _ => none, cut := fun _ => none, deep := fun _ => false }
theorem c_spec_l10Op : Contract Tryz.prog 67 e_spec_l10Op.sig e_spec_l10Op.F :=
  den_is (E := v_spec_l10Op) ⟨tab_ti, tab_eq⟩ (fns_cons c_spec_l1Below (fns_cons c_spec_l1Once (fns_nil _))) mixed Tryz.func67 (by kernel_rfl) (by kernel_rfl) (fun x => by kernel_rfl)

def s_spec_l10Draw : Sig := { params := [.ioptr y87], res := [.row 60 y60 false] }
noncomputable def e_spec_l10Draw : Entry := ⟨s_spec_l10Draw, fun a => D.spec_l10Draw a⟩
noncomputable def v_spec_l10Draw : Env := { ti := look tab, Γ := fns [(37, [], e_spec_l1Below), (67, [], e_spec_l10Op)], loop := fun b => match b with | 0 => some [.slot 3 (.own 60 y60 false), .slot 4 (.int .i64), .box 0 [.ro 5 y5, .int .i64, .int .i64]] | _ => none, cut := fun _ => none, deep := fun _ => false }
theorem c_spec_l10Draw : Contract Tryz.prog 43 e_spec_l10Draw.sig e_spec_l10Draw.F :=
  den_is (E := v_spec_l10Draw) ⟨tab_ti, tab_eq⟩ (fns_cons c_spec_l1Below (fns_cons c_spec_l10Op (fns_nil _))) mixed Tryz.func43 (by kernel_rfl) (by kernel_rfl) (fun x => by kernel_rfl)

def s_spec_l1Int : Sig := { params := [.ioptr y87, .val false y26], res := [.val false y3] }
noncomputable def e_spec_l1Int : Entry := ⟨s_spec_l1Int, fun a => D.spec_l1Int a.1 a.2⟩
noncomputable def v_spec_l1Int : Env := { ti := look tab, Γ := fns [(37, [], e_spec_l1Below)], loop := fun _ => none, cut := fun _ => none, deep := fun _ => false }
theorem c_spec_l1Int : Contract Tryz.prog 38 e_spec_l1Int.sig e_spec_l1Int.F :=
  den_is (E := v_spec_l1Int) ⟨tab_ti, tab_eq⟩ (fns_cons c_spec_l1Below (fns_nil _)) mixed Tryz.func38 (by kernel_rfl) (by kernel_rfl) (fun x => by kernel_rfl)

def s_spec_l4Raw : Sig := { params := [.ioptr y87], res := [.val false y3] }
noncomputable def e_spec_l4Raw : Entry := ⟨s_spec_l4Raw, fun a => D.spec_l4Raw a⟩
noncomputable def v_spec_l4Raw : Env := { ti := look tab, Γ := fns [(38, [], e_spec_l1Int)], loop := fun _ => none, cut := fun _ => none, deep := fun _ => false }
theorem c_spec_l4Raw : Contract Tryz.prog 44 e_spec_l4Raw.sig e_spec_l4Raw.F :=
  den_is (E := v_spec_l4Raw) ⟨tab_ti, tab_eq⟩ (fns_cons c_spec_l1Int (fns_nil _)) mixed Tryz.func44 (by kernel_rfl) (by kernel_rfl) (fun x => by kernel_rfl)

def s_spec_l10Any : Sig := { params := [.ioptr y87], res := [.row 60 y60 false] }
noncomputable def e_spec_l10Any : Entry := ⟨s_spec_l10Any, fun a => D.spec_l10Any a⟩
noncomputable def v_spec_l10Any : Env := { ti := look tab, Γ := fns [(43, [], e_spec_l10Draw), (37, [], e_spec_l1Below), (38, [], e_spec_l1Int), (44, [], e_spec_l4Raw)], loop := fun b => match b with | 1 => some [.slot 3 (.own 60 y60 false)] | _ => none, cut := fun _ => none, deep := fun _ => false }
theorem c_spec_l10Any : Contract Tryz.prog 18 e_spec_l10Any.sig e_spec_l10Any.F :=
  den_is (E := v_spec_l10Any) ⟨tab_ti, tab_eq⟩ (fns_cons c_spec_l10Draw (fns_cons c_spec_l1Below (fns_cons c_spec_l1Int (fns_cons c_spec_l4Raw (fns_nil _))))) mixed Tryz.func18 (by kernel_rfl) (by kernel_rfl) (fun x => by kernel_rfl)

def s_spec_l4Draw : Sig := { params := [.ioptr y87], res := [.val true y68] }
noncomputable def e_spec_l4Draw : Entry := ⟨s_spec_l4Draw, fun a => D.spec_l4Draw a⟩
noncomputable def v_spec_l4Draw : Env := { ti := look tab, Γ := fns [(37, [], e_spec_l1Below)], loop := fun _ => none, cut := fun _ => none, deep := fun _ => false }
theorem c_spec_l4Draw : Contract Tryz.prog 84 e_spec_l4Draw.sig e_spec_l4Draw.F :=
  den_is (E := v_spec_l4Draw) ⟨tab_ti, tab_eq⟩ (fns_cons c_spec_l1Below (fns_nil _)) mixed Tryz.func84 (by kernel_rfl) (by kernel_rfl) (fun x => by kernel_rfl)

def s_spec_l5Body : Sig := { params := [.ioptr y87], res := [.row 3 y3 false] }
noncomputable def e_spec_l5Body : Entry := ⟨s_spec_l5Body, fun a => D.spec_l5Body a⟩
noncomputable def v_spec_l5Body : Env := { ti := look tab, Γ := fns [(37, [], e_spec_l1Below)], loop := fun b => match b with | 0 => some [.slot 3 (.own 3 y3 false), .slot 4 (.int .i64), .box 0 [.ro 5 y5, .int .i64, .int .i64]] | _ => none, cut := fun _ => none, deep := fun _ => false }
theorem c_spec_l5Body : Contract Tryz.prog 98 e_spec_l5Body.sig e_spec_l5Body.F :=
  den_is (E := v_spec_l5Body) ⟨tab_ti, tab_eq⟩ (fns_cons c_spec_l1Below (fns_nil _)) mixed Tryz.func98 (by kernel_rfl) (by kernel_rfl) (fun x => by kernel_rfl)

def s_spec_l5Draw : Sig := { params := [.ioptr y87], res := [.val false y3, .row 3 y3 false, .val false y3, .val false y3, .val false y3], rgroups := [some 5] }
noncomputable def e_spec_l5Draw : Entry := ⟨s_spec_l5Draw, fun a => D.spec_l5Draw a⟩
noncomputable def v_spec_l5Draw : Env := { ti := look tab, Γ := fns [(37, [], e_spec_l1Below), (84, [], e_spec_l4Draw), (98, [], e_spec_l5Body)], loop := fun _ => none, cut := fun _ => none, deep := fun _ => false }
theorem c_spec_l5Draw : Contract Tryz.prog 85 e_spec_l5Draw.sig e_spec_l5Draw.F :=
  den_is (E := v_spec_l5Draw) ⟨tab_ti, tab_eq⟩ (fns_cons c_spec_l1Below (fns_cons c_spec_l4Draw (fns_cons c_spec_l5Body (fns_nil _)))) mixed Tryz.func85 (by kernel_rfl) (by kernel_rfl) (fun x => by kernel_rfl)

def s_spec_l9Draw : Sig := { params := [.ioptr y87], res := [.row 97 y97 true] }
noncomputable def e_spec_l9Draw : Entry := ⟨s_spec_l9Draw, fun a => D.spec_l9Draw a⟩
noncomputable def v_spec_l9Draw : Env := { ti := look tab, Γ := fns [(37, [], e_spec_l1Below), (84, [], e_spec_l4Draw), (85, [], e_spec_l5Draw)], loop := fun b => match b with | 0 => some [.slot 3 (.own 97 y97 true), .slot 4 (.int .i64), .box 0 [.ro 5 y5, .int .i64, .int .i64]] | _ => none, cut := fun _ => none, deep := fun t => Nat.beq t 5 || Nat.beq t 20 }
theorem c_spec_l9Draw : Contract Tryz.prog 68 e_spec_l9Draw.sig e_spec_l9Draw.F :=
  den_is (E := v_spec_l9Draw) ⟨tab_ti, tab_eq⟩ (fns_cons c_spec_l1Below (fns_cons c_spec_l4Draw (fns_cons c_spec_l5Draw (fns_nil _)))) mixed Tryz.func68 (by kernel_rfl) (by kernel_rfl) (fun x => by kernel_rfl)

def s_spec_l12Draw : Sig := { params := [.ioptr y87], res := [.row 97 y97 true, .val false y3, .val false y3, .row 3 y3 false], rgroups := [some 4] }
noncomputable def e_spec_l12Draw : Entry := ⟨s_spec_l12Draw, fun a => D.spec_l12Draw a⟩
noncomputable def v_spec_l12Draw : Env := { ti := look tab, Γ := fns [(68, [], e_spec_l9Draw), (37, [], e_spec_l1Below)], loop := fun b => match b with | 0 => some [.slot 4 (.int .i64), .box 0 [.ro 5 y5, .int .i64, .int .i64], .box 3 [.own 97 y97 true, .int .i64, .int .i64, .own 3 y3 false]] | _ => none, cut := fun _ => none, deep := fun _ => false }
theorem c_spec_l12Draw : Contract Tryz.prog 45 e_spec_l12Draw.sig e_spec_l12Draw.F :=
  den_is (E := v_spec_l12Draw) ⟨tab_ti, tab_eq⟩ (fns_cons c_spec_l9Draw (fns_cons c_spec_l1Below (fns_nil _))) mixed Tryz.func45 (by kernel_rfl) (by kernel_rfl) (fun x => by kernel_rfl)

def s_spec_l4Any : Sig := { params := [.ioptr y87], res := [.val true y68] }
noncomputable def e_spec_l4Any : Entry := ⟨s_spec_l4Any, fun a => D.spec_l4Any a⟩
noncomputable def v_spec_l4Any : Env := { ti := look tab, Γ := fns [(84, [], e_spec_l4Draw), (37, [], e_spec_l1Below), (44, [], e_spec_l4Raw)], loop := fun _ => none, cut := fun _ => none, deep := fun _ => false }
theorem c_spec_l4Any : Contract Tryz.prog 69 e_spec_l4Any.sig e_spec_l4Any.F :=
  den_is (E := v_spec_l4Any) ⟨tab_ti, tab_eq⟩ (fns_cons c_spec_l4Draw (fns_cons c_spec_l1Below (fns_cons c_spec_l4Raw (fns_nil _)))) mixed Tryz.func69 (by kernel_rfl) (by kernel_rfl) (fun x => by kernel_rfl)

def s_spec_l5Any : Sig := { params := [.ioptr y87], res := [.val false y3, .row 3 y3 false, .val false y3, .val false y3, .val false y3], rgroups := [some 5] }
noncomputable def e_spec_l5Any : Entry := ⟨s_spec_l5Any, fun a => D.spec_l5Any a⟩
noncomputable def v_spec_l5Any : Env := { ti := look tab, Γ := fns [(85, [], e_spec_l5Draw), (37, [], e_spec_l1Below), (38, [], e_spec_l1Int), (69, [], e_spec_l4Any)], loop := fun _ => none, cut := fun _ => none, deep := fun _ => false }
theorem c_spec_l5Any : Contract Tryz.prog 70 e_spec_l5Any.sig e_spec_l5Any.F :=
  den_is (E := v_spec_l5Any) ⟨tab_ti, tab_eq⟩ (fns_cons c_spec_l5Draw (fns_cons c_spec_l1Below (fns_cons c_spec_l1Int (fns_cons c_spec_l4Any (fns_nil _))))) mixed Tryz.func70 (by kernel_rfl) (by kernel_rfl) (fun x => by kernel_rfl)

def s_spec_l9Any : Sig := { params := [.ioptr y87], res := [.row 97 y97 true] }
noncomputable def e_spec_l9Any : Entry := ⟨s_spec_l9Any, fun a => D.spec_l9Any a⟩
noncomputable def v_spec_l9Any : Env := { ti := look tab, Γ := fns [(68, [], e_spec_l9Draw), (37, [], e_spec_l1Below), (69, [], e_spec_l4Any), (38, [], e_spec_l1Int), (70, [], e_spec_l5Any)], loop := fun _ => none, cut := fun _ => none, deep := fun _ => false }
theorem c_spec_l9Any : Contract Tryz.prog 46 e_spec_l9Any.sig e_spec_l9Any.F :=
  den_is (E := v_spec_l9Any) ⟨tab_ti, tab_eq⟩ (fns_cons c_spec_l9Draw (fns_cons c_spec_l1Below (fns_cons c_spec_l4Any (fns_cons c_spec_l1Int (fns_cons c_spec_l5Any (fns_nil _)))))) mixed Tryz.func46 (by kernel_rfl) (by kernel_rfl) (fun x => by kernel_rfl)

def s_spec_l12Any : Sig := { params := [.ioptr y87], res := [.row 97 y97 true, .val false y3, .val false y3, .row 3 y3 false], rgroups := [some 4] }
noncomputable def e_spec_l12Any : Entry := ⟨s_spec_l12Any, fun a => D.spec_l12Any a⟩
noncomputable def v_spec_l12Any : Env := { ti := look tab, Γ := fns [(45, [], e_spec_l12Draw), (37, [], e_spec_l1Below), (38, [], e_spec_l1Int), (46, [], e_spec_l9Any)], loop := fun b => match b with | 1 => some [.box 3 [.own 97 y97 true, .int .i64, .int .i64, .own 3 y3 false]] | _ => none, cut := fun _ => none, deep := fun _ => false }
theorem c_spec_l12Any : Contract Tryz.prog 19 e_spec_l12Any.sig e_spec_l12Any.F :=
  den_is (E := v_spec_l12Any) ⟨tab_ti, tab_eq⟩ (fns_cons c_spec_l12Draw (fns_cons c_spec_l1Below (fns_cons c_spec_l1Int (fns_cons c_spec_l9Any (fns_nil _))))) mixed Tryz.func19 (by kernel_rfl) (by kernel_rfl) (fun x => by kernel_rfl)

def s_spec_DrawRecordVisit : Sig := { params := [.val false y22], res := [.row 60 y60 false, .row 97 y97 true, .val false y3, .val false y3, .row 3 y3 false], rgroups := [none, some 4] }
noncomputable def e_spec_DrawRecordVisit : Entry := ⟨s_spec_DrawRecordVisit, fun a => D.spec_DrawRecordVisit a⟩
noncomputable def v_spec_DrawRecordVisit : Env := { ti := look tab, Γ := fns [(17, [], e_spec_l1New), (18, [], e_spec_l10Any), (19, [], e_spec_l12Any)], loop := fun _ => none, cut := fun _ => none, deep := fun _ => false }
theorem c_spec_DrawRecordVisit : Contract Tryz.prog 5 e_spec_DrawRecordVisit.sig e_spec_DrawRecordVisit.F :=
  den_is (E := v_spec_DrawRecordVisit) ⟨tab_ti, tab_eq⟩ (fns_cons c_spec_l1New (fns_cons c_spec_l10Any (fns_cons c_spec_l12Any (fns_nil _)))) mixed Tryz.func5 (by kernel_rfl) (by kernel_rfl) (fun x => by kernel_rfl)

def s_impl_StartState : Sig := { params := [], res := [.val false y3, .row 3 y3 false, .row 3 y3 false, .row 3 y3 false], rgroups := [some 4] }
noncomputable def e_impl_StartState : Entry := ⟨s_impl_StartState, fun _ => D.impl_StartState⟩
noncomputable def v_impl_StartState : Env := { ti := look tab, Γ := fns [], loop := fun _ => none, cut := fun _ => none, deep := fun _ => false }
theorem c_impl_StartState : Contract Tryz.prog 29 e_impl_StartState.sig e_impl_StartState.F :=
  den_is (E := v_impl_StartState) ⟨tab_ti, tab_eq⟩ (fns_nil _) mixed Tryz.func29 (by kernel_rfl) (by kernel_rfl) (fun x => by kernel_rfl)

def s_impl_at : Sig := { params := [.val false y3, .val false y3], res := [.val false y4] }
noncomputable def e_impl_at : Entry := ⟨s_impl_at, fun a => D.impl_at a.1 a.2⟩
noncomputable def v_impl_at : Env := { ti := look tab, Γ := fns [], loop := fun _ => none, cut := fun _ => none, deep := fun _ => false }
theorem c_impl_at : Contract Tryz.prog 49 e_impl_at.sig e_impl_at.F :=
  den_is (E := v_impl_at) ⟨tab_ti, tab_eq⟩ (fns_nil _) mixed Tryz.func49 (by kernel_rfl) (by kernel_rfl) (fun x => by kernel_rfl)

def s_impl_InRange : Sig := { params := [.val false y3, .val false y3, .val false y3], res := [.val false y4] }
noncomputable def e_impl_InRange : Entry := ⟨s_impl_InRange, fun a => D.impl_InRange a.1 a.2.1 a.2.2⟩
noncomputable def v_impl_InRange : Env := { ti := look tab, Γ := fns [], loop := fun _ => none, cut := fun _ => none, deep := fun _ => false }
theorem c_impl_InRange : Contract Tryz.prog 27 e_impl_InRange.sig e_impl_InRange.F :=
  den_is (E := v_impl_InRange) ⟨tab_ti, tab_eq⟩ (fns_nil _) mixed Tryz.func27 (by kernel_rfl) (by kernel_rfl) (fun x => by kernel_rfl)

def s_impl_isOp : Sig := { params := [.val true y60], res := [.val false y4] }
noncomputable def e_impl_isOp : Entry := ⟨s_impl_isOp, fun a => D.impl_isOp a⟩
noncomputable def v_impl_isOp : Env := { ti := look tab, Γ := fns [(49, [], e_impl_at), (27, [], e_impl_InRange)], loop := fun _ => none, cut := fun _ => none, deep := fun _ => false }
theorem c_impl_isOp : Contract Tryz.prog 24 e_impl_isOp.sig e_impl_isOp.F :=
  den_is (E := v_impl_isOp) ⟨tab_ti, tab_eq⟩ (fns_cons c_impl_at (fns_cons c_impl_InRange (fns_nil _))) mixed Tryz.func24 (by kernel_rfl) (by kernel_rfl) (fun x => by kernel_rfl)

def s_impl_IsScript_1 : Sig := { params := [.val true y60], res := [.val false y4] }
noncomputable def e_impl_IsScript_1 : Entry := ⟨s_impl_IsScript_1, fun a => D.impl_IsScript_1 a⟩
noncomputable def v_impl_IsScript_1 : Env := { ti := look tab, Γ := fns [(24, [], e_impl_isOp)], loop := fun _ => none, cut := fun _ => none, deep := fun _ => false }
theorem c_impl_IsScript_1 : Contract Tryz.prog 23 e_impl_IsScript_1.sig e_impl_IsScript_1.F :=
  den_is (E := v_impl_IsScript_1) ⟨tab_ti, tab_eq⟩ (fns_cons c_impl_isOp (fns_nil _)) mixed Tryz.func23 (by kernel_rfl) (by kernel_rfl) (fun x => by kernel_rfl)

def s_slices_IndexFunc_Op_impl_IsScript_1 : Sig := { params := [.val false y24, .fn 23 []], res := [.val false y3] }
noncomputable def e_slices_IndexFunc_Op_impl_IsScript_1 : Entry := ⟨s_slices_IndexFunc_Op_impl_IsScript_1, fun a => D.slices_IndexFunc_Op_impl_IsScript_1 a.1⟩
noncomputable def v_slices_IndexFunc_Op_impl_IsScript_1 : Env := { ti := look tab, Γ := fns [(23, [], e_impl_IsScript_1)], loop := fun b => match b with | 0 => some [.slot 8 (.int .i64)] | _ => none, cut := fun _ => none, deep := fun _ => false }
theorem c_slices_IndexFunc_Op_impl_IsScript_1 : Contract Tryz.prog 48 e_slices_IndexFunc_Op_impl_IsScript_1.sig e_slices_IndexFunc_Op_impl_IsScript_1.F :=
  den_is (E := v_slices_IndexFunc_Op_impl_IsScript_1) ⟨tab_ti, tab_eq⟩ (fns_cons c_impl_IsScript_1 (fns_nil _)) mixed Tryz.func48 (by kernel_rfl) (by kernel_rfl) (fun x => by kernel_rfl)

def s_slices_ContainsFunc_Op_impl_IsScript_1 : Sig := { params := [.val false y24, .fn 23 []], res := [.val false y4] }
noncomputable def e_slices_ContainsFunc_Op_impl_IsScript_1 : Entry := ⟨s_slices_ContainsFunc_Op_impl_IsScript_1, fun a => D.slices_ContainsFunc_Op_impl_IsScript_1 a.1⟩
noncomputable def v_slices_ContainsFunc_Op_impl_IsScript_1 : Env := { ti := look tab, Γ := fns [(48, [23], e_slices_IndexFunc_Op_impl_IsScript_1)], loop := fun _ => none, cut := fun _ => none, deep := fun _ => false }
theorem c_slices_ContainsFunc_Op_impl_IsScript_1 : Contract Tryz.prog 22 e_slices_ContainsFunc_Op_impl_IsScript_1.sig e_slices_ContainsFunc_Op_impl_IsScript_1.F :=
  den_is (E := v_slices_ContainsFunc_Op_impl_IsScript_1) ⟨tab_ti, tab_eq⟩ (fns_cons c_slices_IndexFunc_Op_impl_IsScript_1 (fns_nil _)) mixed Tryz.func22 (by kernel_rfl) (by kernel_rfl) (fun x => by kernel_rfl)

def s_impl_IsScript : Sig := { params := [.val false y24], res := [.val false y4] }
noncomputable def e_impl_IsScript : Entry := ⟨s_impl_IsScript, fun a => D.impl_IsScript a⟩
noncomputable def v_impl_IsScript : Env := { ti := look tab, Γ := fns [(22, [23], e_slices_ContainsFunc_Op_impl_IsScript_1)], loop := fun _ => none, cut := fun _ => none, deep := fun _ => false }
theorem c_impl_IsScript : Contract Tryz.prog 7 e_impl_IsScript.sig e_impl_IsScript.F :=
  den_is (E := v_impl_IsScript) ⟨tab_ti, tab_eq⟩ (fns_cons c_slices_ContainsFunc_Op_impl_IsScript_1 (fns_nil _)) mixed Tryz.func7 (by kernel_rfl) (by kernel_rfl) (fun x => by kernel_rfl)

def s_impl_IsAddress : Sig := { params := [.val true y68], res := [.val false y4] }
noncomputable def e_impl_IsAddress : Entry := ⟨s_impl_IsAddress, fun a => D.impl_IsAddress a⟩
noncomputable def v_impl_IsAddress : Env := { ti := look tab, Γ := fns [(27, [], e_impl_InRange)], loop := fun _ => none, cut := fun _ => none, deep := fun _ => false }
theorem c_impl_IsAddress : Contract Tryz.prog 53 e_impl_IsAddress.sig e_impl_IsAddress.F :=
  den_is (E := v_impl_IsAddress) ⟨tab_ti, tab_eq⟩ (fns_cons c_impl_InRange (fns_nil _)) mixed Tryz.func53 (by kernel_rfl) (by kernel_rfl) (fun x => by kernel_rfl)

def s_impl_allIn : Sig := { params := [.val false y26, .val false y3, .val false y3], res := [.val false y4] }
noncomputable def e_impl_allIn : Entry := ⟨s_impl_allIn, fun a => D.impl_allIn a.1 a.2.1 a.2.2⟩
noncomputable def v_impl_allIn : Env := { ti := look tab, Γ := fns [(27, [], e_impl_InRange)], loop := fun b => match b with | 0 => some [.slot 11 (.int .i64)] | _ => none, cut := fun _ => none, deep := fun _ => false }
theorem c_impl_allIn : Contract Tryz.prog 28 e_impl_allIn.sig e_impl_allIn.F :=
  den_is (E := v_impl_allIn) ⟨tab_ti, tab_eq⟩ (fns_cons c_impl_InRange (fns_nil _)) mixed Tryz.func28 (by kernel_rfl) (by kernel_rfl) (fun x => by kernel_rfl)

def s_impl_IsResource : Sig := { params := [.val true y95], res := [.val false y4] }
noncomputable def e_impl_IsResource : Entry := ⟨s_impl_IsResource, fun a => D.impl_IsResource a⟩
noncomputable def v_impl_IsResource : Env := { ti := look tab, Γ := fns [(28, [], e_impl_allIn), (53, [], e_impl_IsAddress)], loop := fun _ => none, cut := fun _ => none, deep := fun _ => false }
theorem c_impl_IsResource : Contract Tryz.prog 54 e_impl_IsResource.sig e_impl_IsResource.F :=
  den_is (E := v_impl_IsResource) ⟨tab_ti, tab_eq⟩ (fns_cons c_impl_allIn (fns_cons c_impl_IsAddress (fns_nil _))) mixed Tryz.func54 (by kernel_rfl) (by kernel_rfl) (fun x => by kernel_rfl)

def s_impl_IsSite_1 : Sig := { params := [.val true y97], res := [.val false y4] }
noncomputable def e_impl_IsSite_1 : Entry := ⟨s_impl_IsSite_1, fun a => D.impl_IsSite_1 a⟩
noncomputable def v_impl_IsSite_1 : Env := { ti := look tab, Γ := fns [(53, [], e_impl_IsAddress), (27, [], e_impl_InRange), (54, [], e_impl_IsResource)], loop := fun _ => none, cut := fun _ => none, deep := fun _ => false }
theorem c_impl_IsSite_1 : Contract Tryz.prog 52 e_impl_IsSite_1.sig e_impl_IsSite_1.F :=
  den_is (E := v_impl_IsSite_1) ⟨tab_ti, tab_eq⟩ (fns_cons c_impl_IsAddress (fns_cons c_impl_InRange (fns_cons c_impl_IsResource (fns_nil _)))) mixed Tryz.func52 (by kernel_rfl) (by kernel_rfl) (fun x => by kernel_rfl)

def s_slices_IndexFunc_Version_impl_IsSite_1 : Sig := { params := [.val false y25, .fn 52 []], res := [.val false y3] }
noncomputable def e_slices_IndexFunc_Version_impl_IsSite_1 : Entry := ⟨s_slices_IndexFunc_Version_impl_IsSite_1, fun a => D.slices_IndexFunc_Version_impl_IsSite_1 a.1⟩
noncomputable def v_slices_IndexFunc_Version_impl_IsSite_1 : Env := { ti := look tab, Γ := fns [(52, [], e_impl_IsSite_1)], loop := fun b => match b with | 0 => some [.slot 8 (.int .i64)] | _ => none, cut := fun _ => none, deep := fun _ => false }
theorem c_slices_IndexFunc_Version_impl_IsSite_1 : Contract Tryz.prog 75 e_slices_IndexFunc_Version_impl_IsSite_1.sig e_slices_IndexFunc_Version_impl_IsSite_1.F :=
  den_is (E := v_slices_IndexFunc_Version_impl_IsSite_1) ⟨tab_ti, tab_eq⟩ (fns_cons c_impl_IsSite_1 (fns_nil _)) mixed Tryz.func75 (by kernel_rfl) (by kernel_rfl) (fun x => by kernel_rfl)

def s_slices_ContainsFunc_Version_impl_IsSite_1 : Sig := { params := [.val false y25, .fn 52 []], res := [.val false y4] }
noncomputable def e_slices_ContainsFunc_Version_impl_IsSite_1 : Entry := ⟨s_slices_ContainsFunc_Version_impl_IsSite_1, fun a => D.slices_ContainsFunc_Version_impl_IsSite_1 a.1⟩
noncomputable def v_slices_ContainsFunc_Version_impl_IsSite_1 : Env := { ti := look tab, Γ := fns [(75, [52], e_slices_IndexFunc_Version_impl_IsSite_1)], loop := fun _ => none, cut := fun _ => none, deep := fun _ => false }
theorem c_slices_ContainsFunc_Version_impl_IsSite_1 : Contract Tryz.prog 51 e_slices_ContainsFunc_Version_impl_IsSite_1.sig e_slices_ContainsFunc_Version_impl_IsSite_1.F :=
  den_is (E := v_slices_ContainsFunc_Version_impl_IsSite_1) ⟨tab_ti, tab_eq⟩ (fns_cons c_slices_IndexFunc_Version_impl_IsSite_1 (fns_nil _)) mixed Tryz.func51 (by kernel_rfl) (by kernel_rfl) (fun x => by kernel_rfl)

def s_impl_IsSite : Sig := { params := [.val false y25], res := [.val false y4] }
noncomputable def e_impl_IsSite : Entry := ⟨s_impl_IsSite, fun a => D.impl_IsSite a⟩
noncomputable def v_impl_IsSite : Env := { ti := look tab, Γ := fns [(51, [52], e_slices_ContainsFunc_Version_impl_IsSite_1)], loop := fun _ => none, cut := fun _ => none, deep := fun _ => false }
theorem c_impl_IsSite : Contract Tryz.prog 26 e_impl_IsSite.sig e_impl_IsSite.F :=
  den_is (E := v_impl_IsSite) ⟨tab_ti, tab_eq⟩ (fns_cons c_slices_ContainsFunc_Version_impl_IsSite_1 (fns_nil _)) mixed Tryz.func26 (by kernel_rfl) (by kernel_rfl) (fun x => by kernel_rfl)

def s_impl_IsVisit : Sig := { params := [.val true y28], res := [.val false y4] }
noncomputable def e_impl_IsVisit : Entry := ⟨s_impl_IsVisit, fun a => D.impl_IsVisit a⟩
noncomputable def v_impl_IsVisit : Env := { ti := look tab, Γ := fns [(26, [], e_impl_IsSite), (27, [], e_impl_InRange), (28, [], e_impl_allIn)], loop := fun _ => none, cut := fun _ => none, deep := fun _ => false }
theorem c_impl_IsVisit : Contract Tryz.prog 9 e_impl_IsVisit.sig e_impl_IsVisit.F :=
  den_is (E := v_impl_IsVisit) ⟨tab_ti, tab_eq⟩ (fns_cons c_impl_IsSite (fns_cons c_impl_InRange (fns_cons c_impl_allIn (fns_nil _)))) mixed Tryz.func9 (by kernel_rfl) (by kernel_rfl) (fun x => by kernel_rfl)

def s_impl_IsDone : Sig := { params := [.val false y24, .val true y33], res := [.val false y4] }
noncomputable def e_impl_IsDone : Entry := ⟨s_impl_IsDone, fun a => D.impl_IsDone a.1 a.2⟩
noncomputable def v_impl_IsDone : Env := { ti := look tab, Γ := fns [], loop := fun _ => none, cut := fun _ => none, deep := fun _ => false }
theorem c_impl_IsDone : Contract Tryz.prog 30 e_impl_IsDone.sig e_impl_IsDone.F :=
  den_is (E := v_impl_IsDone) ⟨tab_ti, tab_eq⟩ (fns_nil _) mixed Tryz.func30 (by kernel_rfl) (by kernel_rfl) (fun x => by kernel_rfl)

def s_impl_IsState : Sig := { params := [.val true y33], res := [.val false y4] }
noncomputable def e_impl_IsState : Entry := ⟨s_impl_IsState, fun a => D.impl_IsState a⟩
noncomputable def v_impl_IsState : Env := { ti := look tab, Γ := fns [(27, [], e_impl_InRange), (28, [], e_impl_allIn)], loop := fun _ => none, cut := fun _ => none, deep := fun _ => false }
theorem c_impl_IsState : Contract Tryz.prog 76 e_impl_IsState.sig e_impl_IsState.F :=
  den_is (E := v_impl_IsState) ⟨tab_ti, tab_eq⟩ (fns_cons c_impl_InRange (fns_cons c_impl_allIn (fns_nil _))) mixed Tryz.func76 (by kernel_rfl) (by kernel_rfl) (fun x => by kernel_rfl)

def s_impl_canStep : Sig := { params := [.val false y24, .val true y33], res := [.val false y4] }
noncomputable def e_impl_canStep : Entry := ⟨s_impl_canStep, fun a => D.impl_canStep a.1 a.2⟩
noncomputable def v_impl_canStep : Env := { ti := look tab, Γ := fns [(7, [], e_impl_IsScript), (76, [], e_impl_IsState)], loop := fun _ => none, cut := fun _ => none, deep := fun _ => false }
theorem c_impl_canStep : Contract Tryz.prog 55 e_impl_canStep.sig e_impl_canStep.F :=
  den_is (E := v_impl_canStep) ⟨tab_ti, tab_eq⟩ (fns_cons c_impl_IsScript (fns_cons c_impl_IsState (fns_nil _))) mixed Tryz.func55 (by kernel_rfl) (by kernel_rfl) (fun x => by kernel_rfl)

def s_impl_Asks : Sig := { params := [.val false y3], res := [.val false y4] }
noncomputable def e_impl_Asks : Entry := ⟨s_impl_Asks, fun a => D.impl_Asks a⟩
noncomputable def v_impl_Asks : Env := { ti := look tab, Γ := fns [(27, [], e_impl_InRange)], loop := fun _ => none, cut := fun _ => none, deep := fun _ => false }
theorem c_impl_Asks : Contract Tryz.prog 56 e_impl_Asks.sig e_impl_Asks.F :=
  den_is (E := v_impl_Asks) ⟨tab_ti, tab_eq⟩ (fns_cons c_impl_InRange (fns_nil _)) mixed Tryz.func56 (by kernel_rfl) (by kernel_rfl) (fun x => by kernel_rfl)

def s_impl_WantOf : Sig := { params := [.val false y24, .val true y33], res := [.val true y70] }
noncomputable def e_impl_WantOf : Entry := ⟨s_impl_WantOf, fun a => D.impl_WantOf a.1 a.2⟩
noncomputable def v_impl_WantOf : Env := { ti := look tab, Γ := fns [(55, [], e_impl_canStep), (56, [], e_impl_Asks)], loop := fun _ => none, cut := fun _ => none, deep := fun _ => false }
theorem c_impl_WantOf : Contract Tryz.prog 31 e_impl_WantOf.sig e_impl_WantOf.F :=
  den_is (E := v_impl_WantOf) ⟨tab_ti, tab_eq⟩ (fns_cons c_impl_canStep (fns_cons c_impl_Asks (fns_nil _))) mixed Tryz.func31 (by kernel_rfl) (by kernel_rfl) (fun x => by kernel_rfl)

def s_slices_Clone_int : Sig := { params := [.val false y26], res := [.row 3 y3 false] }
noncomputable def e_slices_Clone_int : Entry := ⟨s_slices_Clone_int, fun a => D.slices_Clone_int a⟩
noncomputable def v_slices_Clone_int : Env := { ti := look tab, Γ := fns [], loop := fun _ => none, cut := fun _ => none, deep := fun _ => false }
theorem c_slices_Clone_int : Contract Tryz.prog 62 e_slices_Clone_int.sig e_slices_Clone_int.F :=
  den_is (E := v_slices_Clone_int) ⟨tab_ti, tab_eq⟩ (fns_nil _) mixed Tryz.func62 (by kernel_rfl) (by kernel_rfl) (fun x => by kernel_rfl)

def s_impl_copyResource : Sig := { params := [.val true y95], res := [.val false y3, .row 3 y3 false, .val false y3, .val false y3, .val false y3], rgroups := [some 5] }
noncomputable def e_impl_copyResource : Entry := ⟨s_impl_copyResource, fun a => D.impl_copyResource a⟩
noncomputable def v_impl_copyResource : Env := { ti := look tab, Γ := fns [(62, [], e_slices_Clone_int)], loop := fun _ => none, cut := fun _ => none, deep := fun _ => false }
theorem c_impl_copyResource : Contract Tryz.prog 99 e_impl_copyResource.sig e_impl_copyResource.F :=
  den_is (E := v_impl_copyResource) ⟨tab_ti, tab_eq⟩ (fns_cons c_slices_Clone_int (fns_nil _)) mixed Tryz.func99 (by kernel_rfl) (by kernel_rfl) (fun x => by kernel_rfl)

def s_impl_AnswerAt : Sig := { params := [.val false y25, .val true y68, .val false y3], res := [.val false y3, .row 3 y3 false, .val false y3, .val false y3, .val false y3], rgroups := [some 5] }
noncomputable def e_impl_AnswerAt : Entry := ⟨s_impl_AnswerAt, fun a => D.impl_AnswerAt a.1 a.2.1 a.2.2⟩
noncomputable def v_impl_AnswerAt : Env := { ti := look tab, Γ := fns [(99, [], e_impl_copyResource)], loop := fun b => match b with | 0 => some [.slot 7 (.int .i64), .box 6 [.int .i64, .ro 3 y3, .int .i64, .int .i64, .int .i64]] | _ => none, cut := fun _ => none, deep := fun _ => false }
theorem c_impl_AnswerAt : Contract Tryz.prog 86 e_impl_AnswerAt.sig e_impl_AnswerAt.F :=
  den_is (E := v_impl_AnswerAt) ⟨tab_ti, tab_eq⟩ (fns_cons c_impl_copyResource (fns_nil _)) mixed Tryz.func86 (by kernel_rfl) (by kernel_rfl) (fun x => by kernel_rfl)

def s_slices_Index_Address : Sig := { params := [.val false y119, .val true y68], res := [.val false y3] }
noncomputable def e_slices_Index_Address : Entry := ⟨s_slices_Index_Address, fun a => D.slices_Index_Address a.1 a.2⟩
noncomputable def v_slices_Index_Address : Env := { ti := look tab, Γ := fns [], loop := fun b => match b with | 0 => some [.slot 8 (.int .i64)] | _ => none, cut := fun _ => none, deep := fun _ => false }
theorem c_slices_Index_Address : Contract Tryz.prog 100 e_slices_Index_Address.sig e_slices_Index_Address.F :=
  den_is (E := v_slices_Index_Address) ⟨tab_ti, tab_eq⟩ (fns_nil _) mixed Tryz.func100 (by kernel_rfl) (by kernel_rfl) (fun x => by kernel_rfl)

def s_slices_Contains_Address : Sig := { params := [.val false y119, .val true y68], res := [.val false y4] }
noncomputable def e_slices_Contains_Address : Entry := ⟨s_slices_Contains_Address, fun a => D.slices_Contains_Address a.1 a.2⟩
noncomputable def v_slices_Contains_Address : Env := { ti := look tab, Γ := fns [(100, [], e_slices_Index_Address)], loop := fun _ => none, cut := fun _ => none, deep := fun _ => false }
theorem c_slices_Contains_Address : Contract Tryz.prog 87 e_slices_Contains_Address.sig e_slices_Contains_Address.F :=
  den_is (E := v_slices_Contains_Address) ⟨tab_ti, tab_eq⟩ (fns_cons c_slices_Index_Address (fns_nil _)) mixed Tryz.func87 (by kernel_rfl) (by kernel_rfl) (fun x => by kernel_rfl)

def s_impl_FollowAt : Sig := { params := [.val false y25, .val true y68, .val false y3], res := [.val false y3, .row 3 y3 false, .val false y3, .val false y3, .val false y3, .row 68 y68 false], rgroups := [some 5, none] }
noncomputable def e_impl_FollowAt : Entry := ⟨s_impl_FollowAt, fun a => D.impl_FollowAt a.1 a.2.1 a.2.2⟩
noncomputable def v_impl_FollowAt : Env := { ti := look tab, Γ := fns [(86, [], e_impl_AnswerAt), (87, [], e_slices_Contains_Address)], loop := fun b => match b with | 0 => some [.slot 9 (.own 68 y68 false), .box 8 [.int .i64, .own 3 y3 false, .int .i64, .int .i64, .int .i64]] | _ => none, cut := fun _ => none, deep := fun _ => false }
theorem c_impl_FollowAt : Contract Tryz.prog 71 e_impl_FollowAt.sig e_impl_FollowAt.F :=
  den_is (E := v_impl_FollowAt) ⟨tab_ti, tab_eq⟩ (fns_cons c_impl_AnswerAt (fns_cons c_slices_Contains_Address (fns_nil _))) mixed Tryz.func71 (by kernel_rfl) (by kernel_rfl) (fun x => by kernel_rfl)

def s_impl_hasBody : Sig := { params := [.val false y3], res := [.val false y4] }
noncomputable def e_impl_hasBody : Entry := ⟨s_impl_hasBody, fun a => D.impl_hasBody a⟩
noncomputable def v_impl_hasBody : Env := { ti := look tab, Γ := fns [], loop := fun _ => none, cut := fun _ => none, deep := fun _ => false }
theorem c_impl_hasBody : Contract Tryz.prog 88 e_impl_hasBody.sig e_impl_hasBody.F :=
  den_is (E := v_impl_hasBody) ⟨tab_ti, tab_eq⟩ (fns_nil _) mixed Tryz.func88 (by kernel_rfl) (by kernel_rfl) (fun x => by kernel_rfl)

def s_impl_ValueOfResource : Sig := { params := [.val true y95], res := [.val false y3] }
noncomputable def e_impl_ValueOfResource : Entry := ⟨s_impl_ValueOfResource, fun a => D.impl_ValueOfResource a⟩
noncomputable def v_impl_ValueOfResource : Env := { ti := look tab, Γ := fns [(54, [], e_impl_IsResource), (88, [], e_impl_hasBody)], loop := fun b => match b with | 0 => some [.slot 3 (.int .i64), .slot 18 (.int .i64)] | _ => none, cut := fun _ => none, deep := fun _ => false }
theorem c_impl_ValueOfResource : Contract Tryz.prog 72 e_impl_ValueOfResource.sig e_impl_ValueOfResource.F :=
  den_is (E := v_impl_ValueOfResource) ⟨tab_ti, tab_eq⟩ (fns_cons c_impl_IsResource (fns_cons c_impl_hasBody (fns_nil _))) mixed Tryz.func72 (by kernel_rfl) (by kernel_rfl) (fun x => by kernel_rfl)

def s_impl_Mod : Sig := { params := [.val false y3, .val false y3], res := [.val false y3] }
noncomputable def e_impl_Mod : Entry := ⟨s_impl_Mod, fun a => D.impl_Mod a.1 a.2⟩
noncomputable def v_impl_Mod : Env := { ti := look tab, Γ := fns [(27, [], e_impl_InRange)], loop := fun _ => none, cut := fun _ => none, deep := fun _ => false }
theorem c_impl_Mod : Contract Tryz.prog 73 e_impl_Mod.sig e_impl_Mod.F :=
  den_is (E := v_impl_Mod) ⟨tab_ti, tab_eq⟩ (fns_cons c_impl_InRange (fns_nil _)) mixed Tryz.func73 (by kernel_rfl) (by kernel_rfl) (fun x => by kernel_rfl)

def s_impl_Hash : Sig := { params := [.val false y26], res := [.val false y3] }
noncomputable def e_impl_Hash : Entry := ⟨s_impl_Hash, fun a => D.impl_Hash a⟩
noncomputable def v_impl_Hash : Env := { ti := look tab, Γ := fns [(73, [], e_impl_Mod)], loop := fun b => match b with | 0 => some [.slot 3 (.int .i64), .slot 8 (.int .i64)] | _ => none, cut := fun _ => none, deep := fun _ => false }
theorem c_impl_Hash : Contract Tryz.prog 74 e_impl_Hash.sig e_impl_Hash.F :=
  den_is (E := v_impl_Hash) ⟨tab_ti, tab_eq⟩ (fns_cons c_impl_Mod (fns_nil _)) mixed Tryz.func74 (by kernel_rfl) (by kernel_rfl) (fun x => by kernel_rfl)

def s_impl_LiveValue : Sig := { params := [.val true y28, .val true y70, .val false y3], res := [.val false y3] }
noncomputable def e_impl_LiveValue : Entry := ⟨s_impl_LiveValue, fun a => D.impl_LiveValue a.1 a.2.1 a.2.2⟩
noncomputable def v_impl_LiveValue : Env := { ti := look tab, Γ := fns [(9, [], e_impl_IsVisit), (27, [], e_impl_InRange), (71, [], e_impl_FollowAt), (72, [], e_impl_ValueOfResource), (74, [], e_impl_Hash), (73, [], e_impl_Mod)], loop := fun _ => none, cut := fun _ => none, deep := fun _ => false }
theorem c_impl_LiveValue : Contract Tryz.prog 47 e_impl_LiveValue.sig e_impl_LiveValue.F :=
  den_is (E := v_impl_LiveValue) ⟨tab_ti, tab_eq⟩ (fns_cons c_impl_IsVisit (fns_cons c_impl_InRange (fns_cons c_impl_FollowAt (fns_cons c_impl_ValueOfResource (fns_cons c_impl_Hash (fns_cons c_impl_Mod (fns_nil _))))))) mixed Tryz.func47 (by kernel_rfl) (by kernel_rfl) (fun x => by kernel_rfl)

def s_impl_copyState : Sig := { params := [.val true y33], res := [.val false y3, .row 3 y3 false, .row 3 y3 false, .row 3 y3 false], rgroups := [some 4] }
noncomputable def e_impl_copyState : Entry := ⟨s_impl_copyState, fun a => D.impl_copyState a⟩
noncomputable def v_impl_copyState : Env := { ti := look tab, Γ := fns [(62, [], e_slices_Clone_int)], loop := fun _ => none, cut := fun _ => none, deep := fun _ => false }
theorem c_impl_copyState : Contract Tryz.prog 40 e_impl_copyState.sig e_impl_copyState.F :=
  den_is (E := v_impl_copyState) ⟨tab_ti, tab_eq⟩ (fns_cons c_slices_Clone_int (fns_nil _)) mixed Tryz.func40 (by kernel_rfl) (by kernel_rfl) (fun x => by kernel_rfl)

def s_impl_StepState : Sig := { params := [.val false y24, .val true y33, .val false y3], res := [.val false y3, .row 3 y3 false, .row 3 y3 false, .row 3 y3 false], rgroups := [some 4] }
noncomputable def e_impl_StepState : Entry := ⟨s_impl_StepState, fun a => D.impl_StepState a.1 a.2.1 a.2.2⟩
noncomputable def v_impl_StepState : Env := { ti := look tab, Γ := fns [(40, [], e_impl_copyState), (55, [], e_impl_canStep)], loop := fun _ => none, cut := fun _ => none, deep := fun _ => false }
theorem c_impl_StepState : Contract Tryz.prog 32 e_impl_StepState.sig e_impl_StepState.F :=
  den_is (E := v_impl_StepState) ⟨tab_ti, tab_eq⟩ (fns_cons c_impl_copyState (fns_cons c_impl_canStep (fns_nil _))) mixed Tryz.func32 (by kernel_rfl) (by kernel_rfl) (fun x => by kernel_rfl)

def s_impl_visited : Sig := { params := [.val false y24, .val true y28], res := [.row 73 y73 false, .row 33 y33 false] }
noncomputable def e_impl_visited : Entry := ⟨s_impl_visited, fun a => D.impl_visited a.1 a.2⟩
noncomputable def v_impl_visited : Env := { ti := look tab, Γ := fns [(29, [], e_impl_StartState), (7, [], e_impl_IsScript), (9, [], e_impl_IsVisit), (30, [], e_impl_IsDone), (31, [], e_impl_WantOf), (47, [], e_impl_LiveValue), (32, [], e_impl_StepState)], loop := fun b => match b with | 0 => some [.slot 7 (.own 73 y73 false), .slot 8 (.own 33 y33 false), .box 6 [.int .i64, .ro 3 y3, .ro 3 y3, .ro 3 y3]] | _ => none, cut := fun _ => none, deep := fun _ => false }
theorem c_impl_visited : Contract Tryz.prog 20 e_impl_visited.sig e_impl_visited.F :=
  den_is (E := v_impl_visited) ⟨tab_ti, tab_eq⟩ (fns_cons c_impl_StartState (fns_cons c_impl_IsScript (fns_cons c_impl_IsVisit (fns_cons c_impl_IsDone (fns_cons c_impl_WantOf (fns_cons c_impl_LiveValue (fns_cons c_impl_StepState (fns_nil _)))))))) mixed Tryz.func20 (by kernel_rfl) (by kernel_rfl) (fun x => by kernel_rfl)

def s_impl_last : Sig := { params := [.val false y54], res := [.val false y3, .row 3 y3 false, .row 3 y3 false, .row 3 y3 false], rgroups := [some 4] }
noncomputable def e_impl_last : Entry := ⟨s_impl_last, fun a => D.impl_last a⟩
noncomputable def v_impl_last : Env := { ti := look tab, Γ := fns [(40, [], e_impl_copyState)], loop := fun _ => none, cut := fun _ => none, deep := fun _ => false }
theorem c_impl_last : Contract Tryz.prog 21 e_impl_last.sig e_impl_last.F :=
  den_is (E := v_impl_last) ⟨tab_ti, tab_eq⟩ (fns_cons c_impl_copyState (fns_nil _)) mixed Tryz.func21 (by kernel_rfl) (by kernel_rfl) (fun x => by kernel_rfl)

def s_impl_RecordVisit : Sig := { params := [.val false y24, .val true y28], res := [.row 73 y73 false, .val false y3, .row 3 y3 false, .row 3 y3 false, .row 3 y3 false], rgroups := [none, some 4] }
noncomputable def e_impl_RecordVisit : Entry := ⟨s_impl_RecordVisit, fun a => D.impl_RecordVisit a.1 a.2⟩
noncomputable def v_impl_RecordVisit : Env := { ti := look tab, Γ := fns [(20, [], e_impl_visited), (21, [], e_impl_last)], loop := fun _ => none, cut := fun _ => none, deep := fun _ => false }
theorem c_impl_RecordVisit : Contract Tryz.prog 6 e_impl_RecordVisit.sig e_impl_RecordVisit.F :=
  den_is (E := v_impl_RecordVisit) ⟨tab_ti, tab_eq⟩ (fns_cons c_impl_visited (fns_cons c_impl_last (fns_nil _))) mixed Tryz.func6 (by kernel_rfl) (by kernel_rfl) (fun x => by kernel_rfl)

def s_spec_l1In : Sig := { params := [.val false y3, .val false y3, .val false y3], res := [.val false y4] }
noncomputable def e_spec_l1In : Entry := ⟨s_spec_l1In, fun a => D.spec_l1In a.1 a.2.1 a.2.2⟩
noncomputable def v_spec_l1In : Env := { ti := look tab, Γ := fns [], loop := fun _ => none, cut := fun _ => none, deep := fun _ => false }
theorem c_spec_l1In : Contract Tryz.prog 50 e_spec_l1In.sig e_spec_l1In.F :=
  den_is (E := v_spec_l1In) ⟨tab_ti, tab_eq⟩ (fns_nil _) mixed Tryz.func50 (by kernel_rfl) (by kernel_rfl) (fun x => by kernel_rfl)

def s_spec_l10Ok : Sig := { params := [.val true y60], res := [.val false y4] }
noncomputable def e_spec_l10Ok : Entry := ⟨s_spec_l10Ok, fun a => D.spec_l10Ok a⟩
noncomputable def v_spec_l10Ok : Env := { ti := look tab, Γ := fns [(50, [], e_spec_l1In)], loop := fun _ => none, cut := fun _ => none, deep := fun _ => false }
theorem c_spec_l10Ok : Contract Tryz.prog 25 e_spec_l10Ok.sig e_spec_l10Ok.F :=
  den_is (E := v_spec_l10Ok) ⟨tab_ti, tab_eq⟩ (fns_cons c_spec_l1In (fns_nil _)) mixed Tryz.func25 (by kernel_rfl) (by kernel_rfl) (fun x => by kernel_rfl)

def s_spec_IsScript : Sig := { params := [.val false y24], res := [.val false y4] }
noncomputable def e_spec_IsScript : Entry := ⟨s_spec_IsScript, fun a => D.spec_IsScript a⟩
noncomputable def v_spec_IsScript : Env := { ti := look tab, Γ := fns [(25, [], e_spec_l10Ok)], loop := fun b => match b with | 0 => some [.slot 3 (.int .i64)] | _ => none, cut := fun _ => none, deep := fun _ => false }
theorem c_spec_IsScript : Contract Tryz.prog 8 e_spec_IsScript.sig e_spec_IsScript.F :=
  den_is (E := v_spec_IsScript) ⟨tab_ti, tab_eq⟩ (fns_cons c_spec_l10Ok (fns_nil _)) mixed Tryz.func8 (by kernel_rfl) (by kernel_rfl) (fun x => by kernel_rfl)

def s_impl_ToOld : Sig := { params := [.val false y31], res := [.row 26 y26 true] }
noncomputable def e_impl_ToOld : Entry := ⟨s_impl_ToOld, fun a => D.impl_ToOld a⟩
noncomputable def v_impl_ToOld : Env := { ti := look tab, Γ := fns [], loop := fun b => match b with | 0 => some [.slot 3 (.own 26 y26 true), .slot 8 (.int .i64)] | _ => none, cut := fun _ => none, deep := fun t => Nat.beq t 18 }
theorem c_impl_ToOld : Contract Tryz.prog 11 e_impl_ToOld.sig e_impl_ToOld.F :=
  den_is (E := v_impl_ToOld) ⟨tab_ti, tab_eq⟩ (fns_nil _) mixed Tryz.func11 (by kernel_rfl) (by kernel_rfl) (fun x => by kernel_rfl)

def s_impl_AreEntries_1 : Sig := { params := [.val true y73], res := [.val false y4] }
noncomputable def e_impl_AreEntries_1 : Entry := ⟨s_impl_AreEntries_1, fun a => D.impl_AreEntries_1 a⟩
noncomputable def v_impl_AreEntries_1 : Env := { ti := look tab, Γ := fns [(53, [], e_impl_IsAddress), (27, [], e_impl_InRange), (56, [], e_impl_Asks)], loop := fun _ => none, cut := fun _ => none, deep := fun _ => false }
theorem c_impl_AreEntries_1 : Contract Tryz.prog 58 e_impl_AreEntries_1.sig e_impl_AreEntries_1.F :=
  den_is (E := v_impl_AreEntries_1) ⟨tab_ti, tab_eq⟩ (fns_cons c_impl_IsAddress (fns_cons c_impl_InRange (fns_cons c_impl_Asks (fns_nil _)))) mixed Tryz.func58 (by kernel_rfl) (by kernel_rfl) (fun x => by kernel_rfl)

def s_slices_IndexFunc_Entry_impl_AreEntries_1 : Sig := { params := [.val false y31, .fn 58 []], res := [.val false y3] }
noncomputable def e_slices_IndexFunc_Entry_impl_AreEntries_1 : Entry := ⟨s_slices_IndexFunc_Entry_impl_AreEntries_1, fun a => D.slices_IndexFunc_Entry_impl_AreEntries_1 a.1⟩
noncomputable def v_slices_IndexFunc_Entry_impl_AreEntries_1 : Env := { ti := look tab, Γ := fns [(58, [], e_impl_AreEntries_1)], loop := fun b => match b with | 0 => some [.slot 8 (.int .i64)] | _ => none, cut := fun _ => none, deep := fun _ => false }
theorem c_slices_IndexFunc_Entry_impl_AreEntries_1 : Contract Tryz.prog 77 e_slices_IndexFunc_Entry_impl_AreEntries_1.sig e_slices_IndexFunc_Entry_impl_AreEntries_1.F :=
  den_is (E := v_slices_IndexFunc_Entry_impl_AreEntries_1) ⟨tab_ti, tab_eq⟩ (fns_cons c_impl_AreEntries_1 (fns_nil _)) mixed Tryz.func77 (by kernel_rfl) (by kernel_rfl) (fun x => by kernel_rfl)

def s_slices_ContainsFunc_Entry_impl_AreEntries_1 : Sig := { params := [.val false y31, .fn 58 []], res := [.val false y4] }
noncomputable def e_slices_ContainsFunc_Entry_impl_AreEntries_1 : Entry := ⟨s_slices_ContainsFunc_Entry_impl_AreEntries_1, fun a => D.slices_ContainsFunc_Entry_impl_AreEntries_1 a.1⟩
noncomputable def v_slices_ContainsFunc_Entry_impl_AreEntries_1 : Env := { ti := look tab, Γ := fns [(77, [58], e_slices_IndexFunc_Entry_impl_AreEntries_1)], loop := fun _ => none, cut := fun _ => none, deep := fun _ => false }
theorem c_slices_ContainsFunc_Entry_impl_AreEntries_1 : Contract Tryz.prog 57 e_slices_ContainsFunc_Entry_impl_AreEntries_1.sig e_slices_ContainsFunc_Entry_impl_AreEntries_1.F :=
  den_is (E := v_slices_ContainsFunc_Entry_impl_AreEntries_1) ⟨tab_ti, tab_eq⟩ (fns_cons c_slices_IndexFunc_Entry_impl_AreEntries_1 (fns_nil _)) mixed Tryz.func57 (by kernel_rfl) (by kernel_rfl) (fun x => by kernel_rfl)

def s_impl_AreEntries : Sig := { params := [.val false y31], res := [.val false y4] }
noncomputable def e_impl_AreEntries : Entry := ⟨s_impl_AreEntries, fun a => D.impl_AreEntries a⟩
noncomputable def v_impl_AreEntries : Env := { ti := look tab, Γ := fns [(57, [58], e_slices_ContainsFunc_Entry_impl_AreEntries_1)], loop := fun _ => none, cut := fun _ => none, deep := fun _ => false }
theorem c_impl_AreEntries : Contract Tryz.prog 33 e_impl_AreEntries.sig e_impl_AreEntries.F :=
  den_is (E := v_impl_AreEntries) ⟨tab_ti, tab_eq⟩ (fns_cons c_slices_ContainsFunc_Entry_impl_AreEntries_1 (fns_nil _)) mixed Tryz.func33 (by kernel_rfl) (by kernel_rfl) (fun x => by kernel_rfl)

def s_impl_Migrate : Sig := { params := [.val false y24, .val false y40], res := [.row 73 y73 false, .val false y4] }
noncomputable def e_impl_Migrate : Entry := ⟨s_impl_Migrate, fun a => D.impl_Migrate a.1 a.2⟩
noncomputable def v_impl_Migrate : Env := { ti := look tab, Γ := fns [(7, [], e_impl_IsScript), (29, [], e_impl_StartState), (30, [], e_impl_IsDone), (31, [], e_impl_WantOf), (32, [], e_impl_StepState), (33, [], e_impl_AreEntries)], loop := fun b => match b with | 0 => some [.slot 23 (.int .i64)] | 2 => some [.slot 9 (.own 73 y73 false), .box 8 [.int .i64, .own 3 y3 false, .own 3 y3 false, .own 3 y3 false]] | _ => none, cut := fun _ => none, deep := fun _ => false }
theorem c_impl_Migrate : Contract Tryz.prog 10 e_impl_Migrate.sig e_impl_Migrate.F :=
  den_is (E := v_impl_Migrate) ⟨tab_ti, tab_eq⟩ (fns_cons c_impl_IsScript (fns_cons c_impl_StartState (fns_cons c_impl_IsDone (fns_cons c_impl_WantOf (fns_cons c_impl_StepState (fns_cons c_impl_AreEntries (fns_nil _))))))) mixed Tryz.func10 (by kernel_rfl) (by kernel_rfl) (fun x => by kernel_rfl)

def s_slices_Equal_Entry : Sig := { params := [.val false y31, .val false y31], res := [.val false y4] }
noncomputable def e_slices_Equal_Entry : Entry := ⟨s_slices_Equal_Entry, fun a => D.slices_Equal_Entry a.1 a.2⟩
noncomputable def v_slices_Equal_Entry : Env := { ti := look tab, Γ := fns [], loop := fun b => match b with | 0 => some [.slot 13 (.int .i64)] | _ => none, cut := fun _ => none, deep := fun _ => false }
theorem c_slices_Equal_Entry : Contract Tryz.prog 34 e_slices_Equal_Entry.sig e_slices_Equal_Entry.F :=
  den_is (E := v_slices_Equal_Entry) ⟨tab_ti, tab_eq⟩ (fns_nil _) mixed Tryz.func34 (by kernel_rfl) (by kernel_rfl) (fun x => by kernel_rfl)

def s_impl_EqualEntries : Sig := { params := [.val false y31, .val false y31], res := [.val false y4] }
noncomputable def e_impl_EqualEntries : Entry := ⟨s_impl_EqualEntries, fun a => D.impl_EqualEntries a.1 a.2⟩
noncomputable def v_impl_EqualEntries : Env := { ti := look tab, Γ := fns [(34, [], e_slices_Equal_Entry)], loop := fun _ => none, cut := fun _ => none, deep := fun _ => false }
theorem c_impl_EqualEntries : Contract Tryz.prog 12 e_impl_EqualEntries.sig e_impl_EqualEntries.F :=
  den_is (E := v_impl_EqualEntries) ⟨tab_ti, tab_eq⟩ (fns_cons c_slices_Equal_Entry (fns_nil _)) mixed Tryz.func12 (by kernel_rfl) (by kernel_rfl) (fun x => by kernel_rfl)

def s_impl_IsEquivalent : Sig := { params := [.val false y24, .val false y40, .val false y31], res := [.val false y4] }
noncomputable def e_impl_IsEquivalent : Entry := ⟨s_impl_IsEquivalent, fun a => D.impl_IsEquivalent a.1 a.2.1 a.2.2⟩
noncomputable def v_impl_IsEquivalent : Env := { ti := look tab, Γ := fns [(10, [], e_impl_Migrate), (12, [], e_impl_EqualEntries)], loop := fun _ => none, cut := fun _ => none, deep := fun _ => false }
theorem c_impl_IsEquivalent : Contract Tryz.prog 13 e_impl_IsEquivalent.sig e_impl_IsEquivalent.F :=
  den_is (E := v_impl_IsEquivalent) ⟨tab_ti, tab_eq⟩ (fns_cons c_impl_Migrate (fns_cons c_impl_EqualEntries (fns_nil _))) mixed Tryz.func13 (by kernel_rfl) (by kernel_rfl) (fun x => by kernel_rfl)

def s_spec_l11Zeros : Sig := { params := [.val false y3], res := [.row 3 y3 false] }
noncomputable def e_spec_l11Zeros : Entry := ⟨s_spec_l11Zeros, fun a => D.spec_l11Zeros a⟩
noncomputable def v_spec_l11Zeros : Env := { ti := look tab, Γ := fns [], loop := fun b => match b with | 0 => some [.slot 3 (.own 3 y3 false), .slot 4 (.int .i64)] | _ => none, cut := fun _ => none, deep := fun _ => false }
theorem c_spec_l11Zeros : Contract Tryz.prog 101 e_spec_l11Zeros.sig e_spec_l11Zeros.F :=
  den_is (E := v_spec_l11Zeros) ⟨tab_ti, tab_eq⟩ (fns_nil _) mixed Tryz.func101 (by kernel_rfl) (by kernel_rfl) (fun x => by kernel_rfl)

def s_spec_StartState : Sig := { params := [], res := [.val false y3, .row 3 y3 false, .row 3 y3 false, .row 3 y3 false], rgroups := [some 4] }
noncomputable def e_spec_StartState : Entry := ⟨s_spec_StartState, fun _ => D.spec_StartState⟩
noncomputable def v_spec_StartState : Env := { ti := look tab, Γ := fns [(101, [], e_spec_l11Zeros)], loop := fun _ => none, cut := fun _ => none, deep := fun _ => false }
theorem c_spec_StartState : Contract Tryz.prog 89 e_spec_StartState.sig e_spec_StartState.F :=
  den_is (E := v_spec_StartState) ⟨tab_ti, tab_eq⟩ (fns_cons c_spec_l11Zeros (fns_nil _)) mixed Tryz.func89 (by kernel_rfl) (by kernel_rfl) (fun x => by kernel_rfl)

def s_spec_IsAddress : Sig := { params := [.val true y68], res := [.val false y4] }
noncomputable def e_spec_IsAddress : Entry := ⟨s_spec_IsAddress, fun a => D.spec_IsAddress a⟩
noncomputable def v_spec_IsAddress : Env := { ti := look tab, Γ := fns [(50, [], e_spec_l1In)], loop := fun _ => none, cut := fun _ => none, deep := fun _ => false }
theorem c_spec_IsAddress : Contract Tryz.prog 113 e_spec_IsAddress.sig e_spec_IsAddress.F :=
  den_is (E := v_spec_IsAddress) ⟨tab_ti, tab_eq⟩ (fns_cons c_spec_l1In (fns_nil _)) mixed Tryz.func113 (by kernel_rfl) (by kernel_rfl) (fun x => by kernel_rfl)

def s_spec_l5Bytes : Sig := { params := [.val false y26], res := [.val false y4] }
noncomputable def e_spec_l5Bytes : Entry := ⟨s_spec_l5Bytes, fun a => D.spec_l5Bytes a⟩
noncomputable def v_spec_l5Bytes : Env := { ti := look tab, Γ := fns [(50, [], e_spec_l1In)], loop := fun b => match b with | 0 => some [.slot 3 (.int .i64)] | _ => none, cut := fun _ => none, deep := fun _ => false }
theorem c_spec_l5Bytes : Contract Tryz.prog 122 e_spec_l5Bytes.sig e_spec_l5Bytes.F :=
  den_is (E := v_spec_l5Bytes) ⟨tab_ti, tab_eq⟩ (fns_cons c_spec_l1In (fns_nil _)) mixed Tryz.func122 (by kernel_rfl) (by kernel_rfl) (fun x => by kernel_rfl)

def s_spec_IsResource : Sig := { params := [.val true y95], res := [.val false y4] }
noncomputable def e_spec_IsResource : Entry := ⟨s_spec_IsResource, fun a => D.spec_IsResource a⟩
noncomputable def v_spec_IsResource : Env := { ti := look tab, Γ := fns [(50, [], e_spec_l1In), (122, [], e_spec_l5Bytes), (113, [], e_spec_IsAddress)], loop := fun _ => none, cut := fun _ => none, deep := fun _ => false }
theorem c_spec_IsResource : Contract Tryz.prog 114 e_spec_IsResource.sig e_spec_IsResource.F :=
  den_is (E := v_spec_IsResource) ⟨tab_ti, tab_eq⟩ (fns_cons c_spec_l1In (fns_cons c_spec_l5Bytes (fns_cons c_spec_IsAddress (fns_nil _)))) mixed Tryz.func114 (by kernel_rfl) (by kernel_rfl) (fun x => by kernel_rfl)

def s_spec_IsSite : Sig := { params := [.val false y25], res := [.val false y4] }
noncomputable def e_spec_IsSite : Entry := ⟨s_spec_IsSite, fun a => D.spec_IsSite a⟩
noncomputable def v_spec_IsSite : Env := { ti := look tab, Γ := fns [(113, [], e_spec_IsAddress), (50, [], e_spec_l1In), (114, [], e_spec_IsResource)], loop := fun b => match b with | 0 => some [.slot 3 (.int .i64)] | _ => none, cut := fun _ => none, deep := fun _ => false }
theorem c_spec_IsSite : Contract Tryz.prog 102 e_spec_IsSite.sig e_spec_IsSite.F :=
  den_is (E := v_spec_IsSite) ⟨tab_ti, tab_eq⟩ (fns_cons c_spec_IsAddress (fns_cons c_spec_l1In (fns_cons c_spec_IsResource (fns_nil _)))) mixed Tryz.func102 (by kernel_rfl) (by kernel_rfl) (fun x => by kernel_rfl)

def s_spec_l11All : Sig := { params := [.val false y26, .val false y3], res := [.val false y4] }
noncomputable def e_spec_l11All : Entry := ⟨s_spec_l11All, fun a => D.spec_l11All a.1 a.2⟩
noncomputable def v_spec_l11All : Env := { ti := look tab, Γ := fns [(50, [], e_spec_l1In)], loop := fun b => match b with | 0 => some [.slot 5 (.int .i64)] | _ => none, cut := fun _ => none, deep := fun _ => false }
theorem c_spec_l11All : Contract Tryz.prog 103 e_spec_l11All.sig e_spec_l11All.F :=
  den_is (E := v_spec_l11All) ⟨tab_ti, tab_eq⟩ (fns_cons c_spec_l1In (fns_nil _)) mixed Tryz.func103 (by kernel_rfl) (by kernel_rfl) (fun x => by kernel_rfl)

def s_spec_IsVisit : Sig := { params := [.val true y28], res := [.val false y4] }
noncomputable def e_spec_IsVisit : Entry := ⟨s_spec_IsVisit, fun a => D.spec_IsVisit a⟩
noncomputable def v_spec_IsVisit : Env := { ti := look tab, Γ := fns [(102, [], e_spec_IsSite), (50, [], e_spec_l1In), (103, [], e_spec_l11All)], loop := fun _ => none, cut := fun _ => none, deep := fun _ => false }
theorem c_spec_IsVisit : Contract Tryz.prog 90 e_spec_IsVisit.sig e_spec_IsVisit.F :=
  den_is (E := v_spec_IsVisit) ⟨tab_ti, tab_eq⟩ (fns_cons c_spec_IsSite (fns_cons c_spec_l1In (fns_cons c_spec_l11All (fns_nil _)))) mixed Tryz.func90 (by kernel_rfl) (by kernel_rfl) (fun x => by kernel_rfl)

def s_spec_IsDone : Sig := { params := [.val false y24, .val true y33], res := [.val false y4] }
noncomputable def e_spec_IsDone : Entry := ⟨s_spec_IsDone, fun a => D.spec_IsDone a.1 a.2⟩
noncomputable def v_spec_IsDone : Env := { ti := look tab, Γ := fns [], loop := fun _ => none, cut := fun _ => none, deep := fun _ => false }
theorem c_spec_IsDone : Contract Tryz.prog 91 e_spec_IsDone.sig e_spec_IsDone.F :=
  den_is (E := v_spec_IsDone) ⟨tab_ti, tab_eq⟩ (fns_nil _) mixed Tryz.func91 (by kernel_rfl) (by kernel_rfl) (fun x => by kernel_rfl)

def s_spec_IsState : Sig := { params := [.val true y33], res := [.val false y4] }
noncomputable def e_spec_IsState : Entry := ⟨s_spec_IsState, fun a => D.spec_IsState a⟩
noncomputable def v_spec_IsState : Env := { ti := look tab, Γ := fns [(50, [], e_spec_l1In), (103, [], e_spec_l11All)], loop := fun _ => none, cut := fun _ => none, deep := fun _ => false }
theorem c_spec_IsState : Contract Tryz.prog 115 e_spec_IsState.sig e_spec_IsState.F :=
  den_is (E := v_spec_IsState) ⟨tab_ti, tab_eq⟩ (fns_cons c_spec_l1In (fns_cons c_spec_l11All (fns_nil _))) mixed Tryz.func115 (by kernel_rfl) (by kernel_rfl) (fun x => by kernel_rfl)

def s_spec_l11Can : Sig := { params := [.val false y24, .val true y33], res := [.val false y4] }
noncomputable def e_spec_l11Can : Entry := ⟨s_spec_l11Can, fun a => D.spec_l11Can a.1 a.2⟩
noncomputable def v_spec_l11Can : Env := { ti := look tab, Γ := fns [(8, [], e_spec_IsScript), (115, [], e_spec_IsState)], loop := fun _ => none, cut := fun _ => none, deep := fun _ => false }
theorem c_spec_l11Can : Contract Tryz.prog 104 e_spec_l11Can.sig e_spec_l11Can.F :=
  den_is (E := v_spec_l11Can) ⟨tab_ti, tab_eq⟩ (fns_cons c_spec_IsScript (fns_cons c_spec_IsState (fns_nil _))) mixed Tryz.func104 (by kernel_rfl) (by kernel_rfl) (fun x => by kernel_rfl)

def s_spec_Asks : Sig := { params := [.val false y3], res := [.val false y4] }
noncomputable def e_spec_Asks : Entry := ⟨s_spec_Asks, fun a => D.spec_Asks a⟩
noncomputable def v_spec_Asks : Env := { ti := look tab, Γ := fns [(50, [], e_spec_l1In)], loop := fun _ => none, cut := fun _ => none, deep := fun _ => false }
theorem c_spec_Asks : Contract Tryz.prog 105 e_spec_Asks.sig e_spec_Asks.F :=
  den_is (E := v_spec_Asks) ⟨tab_ti, tab_eq⟩ (fns_cons c_spec_l1In (fns_nil _)) mixed Tryz.func105 (by kernel_rfl) (by kernel_rfl) (fun x => by kernel_rfl)

def s_spec_WantOf : Sig := { params := [.val false y24, .val true y33], res := [.val true y70] }
noncomputable def e_spec_WantOf : Entry := ⟨s_spec_WantOf, fun a => D.spec_WantOf a.1 a.2⟩
noncomputable def v_spec_WantOf : Env := { ti := look tab, Γ := fns [(104, [], e_spec_l11Can), (105, [], e_spec_Asks)], loop := fun _ => none, cut := fun _ => none, deep := fun _ => false }
theorem c_spec_WantOf : Contract Tryz.prog 92 e_spec_WantOf.sig e_spec_WantOf.F :=
  den_is (E := v_spec_WantOf) ⟨tab_ti, tab_eq⟩ (fns_cons c_spec_l11Can (fns_cons c_spec_Asks (fns_nil _))) mixed Tryz.func92 (by kernel_rfl) (by kernel_rfl) (fun x => by kernel_rfl)

def s_spec_l5Copy : Sig := { params := [.val true y95], res := [.val false y3, .row 3 y3 false, .val false y3, .val false y3, .val false y3], rgroups := [some 5] }
noncomputable def e_spec_l5Copy : Entry := ⟨s_spec_l5Copy, fun a => D.spec_l5Copy a⟩
noncomputable def v_spec_l5Copy : Env := { ti := look tab, Γ := fns [], loop := fun _ => none, cut := fun _ => none, deep := fun _ => false }
theorem c_spec_l5Copy : Contract Tryz.prog 123 e_spec_l5Copy.sig e_spec_l5Copy.F :=
  den_is (E := v_spec_l5Copy) ⟨tab_ti, tab_eq⟩ (fns_nil _) mixed Tryz.func123 (by kernel_rfl) (by kernel_rfl) (fun x => by kernel_rfl)

def s_spec_AnswerAt : Sig := { params := [.val false y25, .val true y68, .val false y3], res := [.val false y3, .row 3 y3 false, .val false y3, .val false y3, .val false y3], rgroups := [some 5] }
noncomputable def e_spec_AnswerAt : Entry := ⟨s_spec_AnswerAt, fun a => D.spec_AnswerAt a.1 a.2.1 a.2.2⟩
noncomputable def v_spec_AnswerAt : Env := { ti := look tab, Γ := fns [(123, [], e_spec_l5Copy)], loop := fun b => match b with | 0 => some [.slot 8 (.int .i64), .box 7 [.int .i64, .own 3 y3 false, .int .i64, .int .i64, .int .i64]] | _ => none, cut := fun _ => none, deep := fun _ => false }
theorem c_spec_AnswerAt : Contract Tryz.prog 116 e_spec_AnswerAt.sig e_spec_AnswerAt.F :=
  den_is (E := v_spec_AnswerAt) ⟨tab_ti, tab_eq⟩ (fns_cons c_spec_l5Copy (fns_nil _)) mixed Tryz.func116 (by kernel_rfl) (by kernel_rfl) (fun x => by kernel_rfl)

def s_spec_l9Has : Sig := { params := [.val false y119, .val true y68], res := [.val false y4] }
noncomputable def e_spec_l9Has : Entry := ⟨s_spec_l9Has, fun a => D.spec_l9Has a.1 a.2⟩
noncomputable def v_spec_l9Has : Env := { ti := look tab, Γ := fns [], loop := fun b => match b with | 0 => some [.slot 5 (.int .i64)] | _ => none, cut := fun _ => none, deep := fun _ => false }
theorem c_spec_l9Has : Contract Tryz.prog 117 e_spec_l9Has.sig e_spec_l9Has.F :=
  den_is (E := v_spec_l9Has) ⟨tab_ti, tab_eq⟩ (fns_nil _) mixed Tryz.func117 (by kernel_rfl) (by kernel_rfl) (fun x => by kernel_rfl)

def s_spec_FollowAt : Sig := { params := [.val false y25, .val true y68, .val false y3], res := [.val false y3, .row 3 y3 false, .val false y3, .val false y3, .val false y3, .row 68 y68 false], rgroups := [some 5, none] }
noncomputable def e_spec_FollowAt : Entry := ⟨s_spec_FollowAt, fun a => D.spec_FollowAt a.1 a.2.1 a.2.2⟩
noncomputable def v_spec_FollowAt : Env := { ti := look tab, Γ := fns [(116, [], e_spec_AnswerAt), (117, [], e_spec_l9Has)], loop := fun b => match b with | 0 => some [.slot 8 (.own 68 y68 false), .box 9 [.int .i64, .own 3 y3 false, .int .i64, .int .i64, .int .i64]] | _ => none, cut := fun _ => none, deep := fun _ => false }
theorem c_spec_FollowAt : Contract Tryz.prog 106 e_spec_FollowAt.sig e_spec_FollowAt.F :=
  den_is (E := v_spec_FollowAt) ⟨tab_ti, tab_eq⟩ (fns_cons c_spec_AnswerAt (fns_cons c_spec_l9Has (fns_nil _))) mixed Tryz.func106 (by kernel_rfl) (by kernel_rfl) (fun x => by kernel_rfl)

def s_spec_Min : Sig := { params := [.val false y3, .val false y3], res := [.val false y3] }
noncomputable def e_spec_Min : Entry := ⟨s_spec_Min, fun a => D.spec_Min a.1 a.2⟩
noncomputable def v_spec_Min : Env := { ti := look tab, Γ := fns [], loop := fun _ => none, cut := fun _ => none, deep := fun _ => false }
theorem c_spec_Min : Contract Tryz.prog 108 e_spec_Min.sig e_spec_Min.F :=
  den_is (E := v_spec_Min) ⟨tab_ti, tab_eq⟩ (fns_nil _) mixed Tryz.func108 (by kernel_rfl) (by kernel_rfl) (fun x => by kernel_rfl)

def s_spec_ValueOfResource : Sig := { params := [.val true y95], res := [.val false y3] }
noncomputable def e_spec_ValueOfResource : Entry := ⟨s_spec_ValueOfResource, fun a => D.spec_ValueOfResource a⟩
noncomputable def v_spec_ValueOfResource : Env := { ti := look tab, Γ := fns [(114, [], e_spec_IsResource), (108, [], e_spec_Min)], loop := fun b => match b with | 0 => some [.slot 3 (.int .i64), .slot 4 (.int .i64)] | _ => none, cut := fun _ => none, deep := fun _ => false }
theorem c_spec_ValueOfResource : Contract Tryz.prog 107 e_spec_ValueOfResource.sig e_spec_ValueOfResource.F :=
  den_is (E := v_spec_ValueOfResource) ⟨tab_ti, tab_eq⟩ (fns_cons c_spec_IsResource (fns_cons c_spec_Min (fns_nil _))) mixed Tryz.func107 (by kernel_rfl) (by kernel_rfl) (fun x => by kernel_rfl)

def s_spec_Mod : Sig := { params := [.val false y3, .val false y3], res := [.val false y3] }
noncomputable def e_spec_Mod : Entry := ⟨s_spec_Mod, fun a => D.spec_Mod a.1 a.2⟩
noncomputable def v_spec_Mod : Env := { ti := look tab, Γ := fns [(50, [], e_spec_l1In)], loop := fun _ => none, cut := fun _ => none, deep := fun _ => false }
theorem c_spec_Mod : Contract Tryz.prog 109 e_spec_Mod.sig e_spec_Mod.F :=
  den_is (E := v_spec_Mod) ⟨tab_ti, tab_eq⟩ (fns_cons c_spec_l1In (fns_nil _)) mixed Tryz.func109 (by kernel_rfl) (by kernel_rfl) (fun x => by kernel_rfl)

def s_spec_Hash : Sig := { params := [.val false y26], res := [.val false y3] }
noncomputable def e_spec_Hash : Entry := ⟨s_spec_Hash, fun a => D.spec_Hash a⟩
noncomputable def v_spec_Hash : Env := { ti := look tab, Γ := fns [(109, [], e_spec_Mod)], loop := fun b => match b with | 0 => some [.slot 3 (.int .i64), .slot 4 (.int .i64)] | _ => none, cut := fun _ => none, deep := fun _ => false }
theorem c_spec_Hash : Contract Tryz.prog 110 e_spec_Hash.sig e_spec_Hash.F :=
  den_is (E := v_spec_Hash) ⟨tab_ti, tab_eq⟩ (fns_cons c_spec_Mod (fns_nil _)) mixed Tryz.func110 (by kernel_rfl) (by kernel_rfl) (fun x => by kernel_rfl)

def s_spec_LiveValue : Sig := { params := [.val true y28, .val true y70, .val false y3], res := [.val false y3] }
noncomputable def e_spec_LiveValue : Entry := ⟨s_spec_LiveValue, fun a => D.spec_LiveValue a.1 a.2.1 a.2.2⟩
noncomputable def v_spec_LiveValue : Env := { ti := look tab, Γ := fns [(90, [], e_spec_IsVisit), (50, [], e_spec_l1In), (106, [], e_spec_FollowAt), (107, [], e_spec_ValueOfResource), (108, [], e_spec_Min), (110, [], e_spec_Hash), (109, [], e_spec_Mod)], loop := fun _ => none, cut := fun _ => none, deep := fun _ => false }
theorem c_spec_LiveValue : Contract Tryz.prog 93 e_spec_LiveValue.sig e_spec_LiveValue.F :=
  den_is (E := v_spec_LiveValue) ⟨tab_ti, tab_eq⟩ (fns_cons c_spec_IsVisit (fns_cons c_spec_l1In (fns_cons c_spec_FollowAt (fns_cons c_spec_ValueOfResource (fns_cons c_spec_Min (fns_cons c_spec_Hash (fns_cons c_spec_Mod (fns_nil _)))))))) mixed Tryz.func93 (by kernel_rfl) (by kernel_rfl) (fun x => by kernel_rfl)

def s_spec_l11Copy : Sig := { params := [.val true y33], res := [.val false y3, .row 3 y3 false, .row 3 y3 false, .row 3 y3 false], rgroups := [some 4] }
noncomputable def e_spec_l11Copy : Entry := ⟨s_spec_l11Copy, fun a => D.spec_l11Copy a⟩
noncomputable def v_spec_l11Copy : Env := { ti := look tab, Γ := fns [], loop := fun _ => none, cut := fun _ => none, deep := fun _ => false }
theorem c_spec_l11Copy : Contract Tryz.prog 79 e_spec_l11Copy.sig e_spec_l11Copy.F :=
  den_is (E := v_spec_l11Copy) ⟨tab_ti, tab_eq⟩ (fns_nil _) mixed Tryz.func79 (by kernel_rfl) (by kernel_rfl) (fun x => by kernel_rfl)

def s_spec_Max : Sig := { params := [.val false y3, .val false y3], res := [.val false y3] }
noncomputable def e_spec_Max : Entry := ⟨s_spec_Max, fun a => D.spec_Max a.1 a.2⟩
noncomputable def v_spec_Max : Env := { ti := look tab, Γ := fns [], loop := fun _ => none, cut := fun _ => none, deep := fun _ => false }
theorem c_spec_Max : Contract Tryz.prog 111 e_spec_Max.sig e_spec_Max.F :=
  den_is (E := v_spec_Max) ⟨tab_ti, tab_eq⟩ (fns_nil _) mixed Tryz.func111 (by kernel_rfl) (by kernel_rfl) (fun x => by kernel_rfl)

def s_spec_StepState : Sig := { params := [.val false y24, .val true y33, .val false y3], res := [.val false y3, .row 3 y3 false, .row 3 y3 false, .row 3 y3 false], rgroups := [some 4] }
noncomputable def e_spec_StepState : Entry := ⟨s_spec_StepState, fun a => D.spec_StepState a.1 a.2.1 a.2.2⟩
noncomputable def v_spec_StepState : Env := { ti := look tab, Γ := fns [(79, [], e_spec_l11Copy), (104, [], e_spec_l11Can), (108, [], e_spec_Min), (111, [], e_spec_Max)], loop := fun _ => none, cut := fun _ => none, deep := fun _ => false }
theorem c_spec_StepState : Contract Tryz.prog 94 e_spec_StepState.sig e_spec_StepState.F :=
  den_is (E := v_spec_StepState) ⟨tab_ti, tab_eq⟩ (fns_cons c_spec_l11Copy (fns_cons c_spec_l11Can (fns_cons c_spec_Min (fns_cons c_spec_Max (fns_nil _))))) mixed Tryz.func94 (by kernel_rfl) (by kernel_rfl) (fun x => by kernel_rfl)

def s_spec_l13Run : Sig := { params := [.val false y24, .val true y28], res := [.row 73 y73 false, .row 33 y33 false] }
noncomputable def e_spec_l13Run : Entry := ⟨s_spec_l13Run, fun a => D.spec_l13Run a.1 a.2⟩
noncomputable def v_spec_l13Run : Env := { ti := look tab, Γ := fns [(89, [], e_spec_StartState), (8, [], e_spec_IsScript), (90, [], e_spec_IsVisit), (91, [], e_spec_IsDone), (92, [], e_spec_WantOf), (93, [], e_spec_LiveValue), (94, [], e_spec_StepState)], loop := fun b => match b with | 0 => some [.slot 6 (.own 73 y73 false), .slot 8 (.own 33 y33 false), .box 7 [.int .i64, .ro 3 y3, .ro 3 y3, .ro 3 y3]] | _ => none, cut := fun _ => none, deep := fun _ => false }
theorem c_spec_l13Run : Contract Tryz.prog 78 e_spec_l13Run.sig e_spec_l13Run.F :=
  den_is (E := v_spec_l13Run) ⟨tab_ti, tab_eq⟩ (fns_cons c_spec_StartState (fns_cons c_spec_IsScript (fns_cons c_spec_IsVisit (fns_cons c_spec_IsDone (fns_cons c_spec_WantOf (fns_cons c_spec_LiveValue (fns_cons c_spec_StepState (fns_nil _)))))))) mixed Tryz.func78 (by kernel_rfl) (by kernel_rfl) (fun x => by kernel_rfl)

def s_spec_RecordVisit : Sig := { params := [.val false y24, .val true y28], res := [.row 73 y73 false, .val false y3, .row 3 y3 false, .row 3 y3 false, .row 3 y3 false], rgroups := [none, some 4] }
noncomputable def e_spec_RecordVisit : Entry := ⟨s_spec_RecordVisit, fun a => D.spec_RecordVisit a.1 a.2⟩
noncomputable def v_spec_RecordVisit : Env := { ti := look tab, Γ := fns [(78, [], e_spec_l13Run), (79, [], e_spec_l11Copy)], loop := fun _ => none, cut := fun _ => none, deep := fun _ => false }
theorem c_spec_RecordVisit : Contract Tryz.prog 59 e_spec_RecordVisit.sig e_spec_RecordVisit.F :=
  den_is (E := v_spec_RecordVisit) ⟨tab_ti, tab_eq⟩ (fns_cons c_spec_l13Run (fns_cons c_spec_l11Copy (fns_nil _))) mixed Tryz.func59 (by kernel_rfl) (by kernel_rfl) (fun x => by kernel_rfl)

def s_spec_l13Entries : Sig := { params := [.ioptr y87], res := [.row 73 y73 false] }
noncomputable def e_spec_l13Entries : Entry := ⟨s_spec_l13Entries, fun a => D.spec_l13Entries a⟩
noncomputable def v_spec_l13Entries : Env := { ti := look tab, Γ := fns [(43, [], e_spec_l10Draw), (45, [], e_spec_l12Draw), (59, [], e_spec_RecordVisit), (37, [], e_spec_l1Below), (38, [], e_spec_l1Int), (69, [], e_spec_l4Any)], loop := fun _ => none, cut := fun _ => none, deep := fun _ => false }
theorem c_spec_l13Entries : Contract Tryz.prog 60 e_spec_l13Entries.sig e_spec_l13Entries.F :=
  den_is (E := v_spec_l13Entries) ⟨tab_ti, tab_eq⟩ (fns_cons c_spec_l10Draw (fns_cons c_spec_l12Draw (fns_cons c_spec_RecordVisit (fns_cons c_spec_l1Below (fns_cons c_spec_l1Int (fns_cons c_spec_l4Any (fns_nil _))))))) mixed Tryz.func60 (by kernel_rfl) (by kernel_rfl) (fun x => by kernel_rfl)

def s_spec_DrawReplay : Sig := { params := [.val false y22], res := [.row 60 y60 false, .row 73 y73 false] }
noncomputable def e_spec_DrawReplay : Entry := ⟨s_spec_DrawReplay, fun a => D.spec_DrawReplay a⟩
noncomputable def v_spec_DrawReplay : Env := { ti := look tab, Γ := fns [(17, [], e_spec_l1New), (43, [], e_spec_l10Draw), (45, [], e_spec_l12Draw), (59, [], e_spec_RecordVisit), (37, [], e_spec_l1Below), (60, [], e_spec_l13Entries), (18, [], e_spec_l10Any)], loop := fun _ => none, cut := fun _ => none, deep := fun _ => false }
theorem c_spec_DrawReplay : Contract Tryz.prog 35 e_spec_DrawReplay.sig e_spec_DrawReplay.F :=
  den_is (E := v_spec_DrawReplay) ⟨tab_ti, tab_eq⟩ (fns_cons c_spec_l1New (fns_cons c_spec_l10Draw (fns_cons c_spec_l12Draw (fns_cons c_spec_RecordVisit (fns_cons c_spec_l1Below (fns_cons c_spec_l13Entries (fns_cons c_spec_l10Any (fns_nil _)))))))) mixed Tryz.func35 (by kernel_rfl) (by kernel_rfl) (fun x => by kernel_rfl)

def s_spec_ToOld : Sig := { params := [.val false y31], res := [.row 26 y26 true] }
noncomputable def e_spec_ToOld : Entry := ⟨s_spec_ToOld, fun a => D.spec_ToOld a⟩
noncomputable def v_spec_ToOld : Env := { ti := look tab, Γ := fns [], loop := fun b => match b with | 0 => some [.slot 3 (.own 26 y26 true), .slot 4 (.int .i64)] | _ => none, cut := fun _ => none, deep := fun t => Nat.beq t 5 || Nat.beq t 24 }
theorem c_spec_ToOld : Contract Tryz.prog 36 e_spec_ToOld.sig e_spec_ToOld.F :=
  den_is (E := v_spec_ToOld) ⟨tab_ti, tab_eq⟩ (fns_nil _) mixed Tryz.func36 (by kernel_rfl) (by kernel_rfl) (fun x => by kernel_rfl)

def s_spec_DrawMigrate : Sig := { params := [.val false y22], res := [.val false y24, .val false y40] }
noncomputable def e_spec_DrawMigrate : Entry := ⟨s_spec_DrawMigrate, fun a => D.spec_DrawMigrate a⟩
theorem c_spec_DrawMigrate : Contract Tryz.prog 14 e_spec_DrawMigrate.sig e_spec_DrawMigrate.F := Eq.mp (by kernel_rfl) (Go.Proofs.YtfipolbgkppdjaaGreatDoor.Ex.drawMigrate_is (F35 := e_spec_DrawReplay.F) (F17 := e_spec_l1New.F) (F36 := e_spec_ToOld.F) (F37 := e_spec_l1Below.F) (F38 := e_spec_l1Int.F) (Eq.mp (by kernel_rfl) c_spec_DrawReplay) (Eq.mp (by kernel_rfl) c_spec_l1New) (Eq.mp (by kernel_rfl) c_spec_ToOld) (Eq.mp (by kernel_rfl) c_spec_l1Below) (Eq.mp (by kernel_rfl) c_spec_l1Int))

def s_impl_played : Sig := { params := [.val false y24, .val false y31], res := [.val true y47, .row 33 y33 false] }
noncomputable def e_impl_played : Entry := ⟨s_impl_played, fun a => D.impl_played a.1 a.2⟩
noncomputable def v_impl_played : Env := { ti := look tab, Γ := fns [(29, [], e_impl_StartState), (7, [], e_impl_IsScript), (33, [], e_impl_AreEntries), (30, [], e_impl_IsDone), (31, [], e_impl_WantOf), (32, [], e_impl_StepState)], loop := fun b => match b with | 0 => some [.slot 7 (.own 33 y33 false), .slot 8 (.int .i64), .box 4 [.int .i64, .int .i64, .int .i64, .ro 3 y3, .ro 3 y3, .ro 3 y3], .box 6 [.int .i64, .ro 3 y3, .ro 3 y3, .ro 3 y3]] | _ => none, cut := fun _ => none, deep := fun _ => false }
theorem c_impl_played : Contract Tryz.prog 39 e_impl_played.sig e_impl_played.F :=
  den_is (E := v_impl_played) ⟨tab_ti, tab_eq⟩ (fns_cons c_impl_StartState (fns_cons c_impl_IsScript (fns_cons c_impl_AreEntries (fns_cons c_impl_IsDone (fns_cons c_impl_WantOf (fns_cons c_impl_StepState (fns_nil _))))))) mixed Tryz.func39 (by kernel_rfl) (by kernel_rfl) (fun x => by kernel_rfl)

def s_impl_Replay : Sig := { params := [.val false y24, .val false y31], res := [.val false y3, .val false y3, .val false y3, .row 3 y3 false, .row 3 y3 false, .row 3 y3 false], rgroups := [some 6] }
noncomputable def e_impl_Replay : Entry := ⟨s_impl_Replay, fun a => D.impl_Replay a.1 a.2⟩
noncomputable def v_impl_Replay : Env := { ti := look tab, Γ := fns [(39, [], e_impl_played), (40, [], e_impl_copyState)], loop := fun _ => none, cut := fun _ => none, deep := fun _ => false }
theorem c_impl_Replay : Contract Tryz.prog 15 e_impl_Replay.sig e_impl_Replay.F :=
  den_is (E := v_impl_Replay) ⟨tab_ti, tab_eq⟩ (fns_cons c_impl_played (fns_cons c_impl_copyState (fns_nil _))) mixed Tryz.func15 (by kernel_rfl) (by kernel_rfl) (fun x => by kernel_rfl)

def s_strconv_Itoa : Sig := { params := [.val false y3], res := [.val false y9] }
noncomputable def e_strconv_Itoa : Entry := ⟨s_strconv_Itoa, fun a => D.strconv_Itoa a⟩
theorem c_strconv_Itoa : Contract Tryz.prog 80 e_strconv_Itoa.sig e_strconv_Itoa.F := Eq.mp (by kernel_rfl) (Go.Proofs.YtfipolbgkppdjaaGreatDoor.Ex.itoa_is)

def s_impl_FormatInt : Sig := { params := [.val false y3], res := [.val false y9] }
noncomputable def e_impl_FormatInt : Entry := ⟨s_impl_FormatInt, fun a => D.impl_FormatInt a⟩
noncomputable def v_impl_FormatInt : Env := { ti := look tab, Γ := fns [(80, [], e_strconv_Itoa)], loop := fun _ => none, cut := fun _ => none, deep := fun _ => false }
theorem c_impl_FormatInt : Contract Tryz.prog 63 e_impl_FormatInt.sig e_impl_FormatInt.F :=
  den_is (E := v_impl_FormatInt) ⟨tab_ti, tab_eq⟩ (fns_cons c_strconv_Itoa (fns_nil _)) mixed Tryz.func63 (by kernel_rfl) (by kernel_rfl) (fun x => by kernel_rfl)

def s_strings_Join : Sig := { params := [.val false y83, .val false y9], res := [.val false y9] }
noncomputable def e_strings_Join : Entry := ⟨s_strings_Join, fun a => D.strings_Join a.1 a.2⟩
theorem c_strings_Join : Contract Tryz.prog 42 e_strings_Join.sig e_strings_Join.F := Eq.mp (by kernel_rfl) (Go.Proofs.YtfipolbgkppdjaaGreatDoor.Ex.join_is)

def s_impl_joinWith : Sig := { params := [.val false y26, .val false y9], res := [.val false y9] }
noncomputable def e_impl_joinWith : Entry := ⟨s_impl_joinWith, fun a => D.impl_joinWith a.1 a.2⟩
noncomputable def v_impl_joinWith : Env := { ti := look tab, Γ := fns [(63, [], e_impl_FormatInt), (42, [], e_strings_Join)], loop := fun b => match b with | 0 => some [.slot 5 (.own 9 y9 false), .slot 10 (.int .i64)] | _ => none, cut := fun _ => none, deep := fun _ => false }
theorem c_impl_joinWith : Contract Tryz.prog 41 e_impl_joinWith.sig e_impl_joinWith.F :=
  den_is (E := v_impl_joinWith) ⟨tab_ti, tab_eq⟩ (fns_cons c_impl_FormatInt (fns_cons c_strings_Join (fns_nil _))) mixed Tryz.func41 (by kernel_rfl) (by kernel_rfl) (fun x => by kernel_rfl)

def s_impl_OldText : Sig := { params := [.val false y40], res := [.val false y9] }
noncomputable def e_impl_OldText : Entry := ⟨s_impl_OldText, fun a => D.impl_OldText a⟩
noncomputable def v_impl_OldText : Env := { ti := look tab, Γ := fns [(41, [], e_impl_joinWith), (42, [], e_strings_Join)], loop := fun b => match b with | 0 => some [.slot 3 (.own 9 y9 false), .slot 11 (.int .i64)] | _ => none, cut := fun _ => none, deep := fun _ => false }
theorem c_impl_OldText : Contract Tryz.prog 16 e_impl_OldText.sig e_impl_OldText.F :=
  den_is (E := v_impl_OldText) ⟨tab_ti, tab_eq⟩ (fns_cons c_impl_joinWith (fns_cons c_strings_Join (fns_nil _))) mixed Tryz.func16 (by kernel_rfl) (by kernel_rfl) (fun x => by kernel_rfl)

def s_laws_FnMigrated : Sig := { params := [.val false y22], res := [.val false y4] }
noncomputable def e_laws_FnMigrated : Entry := ⟨s_laws_FnMigrated, fun a => D.laws_FnMigrated a⟩
noncomputable def v_laws_FnMigrated : Env := { ti := look tab, Γ := fns [(4, [], e_laws_big), (5, [], e_spec_DrawRecordVisit), (6, [], e_impl_RecordVisit), (7, [], e_impl_IsScript), (8, [], e_spec_IsScript), (9, [], e_impl_IsVisit), (11, [], e_impl_ToOld), (10, [], e_impl_Migrate), (12, [], e_impl_EqualEntries), (13, [], e_impl_IsEquivalent), (14, [], e_spec_DrawMigrate), (15, [], e_impl_Replay), (16, [], e_impl_OldText)], loop := fun _ => none, cut := fun _ => none, deep := fun _ => false }
theorem c_laws_FnMigrated : Contract Tryz.prog 3 e_laws_FnMigrated.sig e_laws_FnMigrated.F :=
  den_is (E := v_laws_FnMigrated) ⟨tab_ti, tab_eq⟩ (fns_cons c_laws_big (fns_cons c_spec_DrawRecordVisit (fns_cons c_impl_RecordVisit (fns_cons c_impl_IsScript (fns_cons c_spec_IsScript (fns_cons c_impl_IsVisit (fns_cons c_impl_ToOld (fns_cons c_impl_Migrate (fns_cons c_impl_EqualEntries (fns_cons c_impl_IsEquivalent (fns_cons c_spec_DrawMigrate (fns_cons c_impl_Replay (fns_cons c_impl_OldText (fns_nil _)))))))))))))) mixed Tryz.func3 (by kernel_rfl) (by kernel_rfl) (fun x => by kernel_rfl)

theorem law_true (a : Tup (s_laws_FnMigrated.params.map PTy.den)) (hok : argsOk Tryz.prog s_laws_FnMigrated.params a) : D.laws_FnMigrated a = some true := D.FnMigrated_true a (Ty.ok_bd (P := Tryz.prog) (t := y22) (by kernel_rfl) hok.1)
theorem witness_row (os : Os) {H : Type} (enc : TypeId × Value → H) :
    (OpenSpec.ofChange Rows.fnMigratedSpec).preRow enc Tryz.prog Tryz.f3 Rows.fnMigratedRow.domain false Rows.fnMigratedRow.laid ((Ex.laidWorld os).forCall (fun _ _ => 0) ⟨#[], #[.slice none 0 0], []⟩).memory #[.slice none 0 0] := by
  have hw : (DataW.whole enc Tryz.prog ((Ex.laidWorld os).forCall (fun _ _ => 0) ⟨#[], #[.slice none 0 0], []⟩).memory Tryz.f3.params.toList (OpenSpec.ofChange Rows.fnMigratedSpec).vars false (#[.slice none 0 0] : Array Value).toList 8).map (fun x => (x.1, x.2.1)) =
      some ([.nil], []) := by kernel_rfl
  obtain ⟨⟨x1, x2, x3⟩, hx, hx1⟩ := Option.map_eq_some_iff.1 hw
  simp only [Prod.mk.injEq] at hx1
  obtain ⟨rfl, rfl⟩ := hx1
  exact OpenSpec.preRow_of_cond 8 hx (by kernel_rfl) (fun k hk => by cases hk) (by kernel_rfl) (Ex.laid_met os _)
theorem lifted (os : Os) (started : os.Started) (H : Type) (enc : TypeId × Value → H) (F0 : Stop.Interp) :
    ReturnsInHanded {} Tryz.checked os 3 .any ((OpenSpec.ofChange Rows.fnMigratedSpec).preRow enc Tryz.prog Tryz.f3 Rows.fnMigratedRow.domain false Rows.fnMigratedRow.laid) (((OpenSpec.ofChange Rows.fnMigratedSpec).at F0).post enc Tryz.prog Tryz.f3 false true false false) := by
  refine returnsInHanded_of_row (C := Tryz.checked) (s := OpenSpec.ofChange Rows.fnMigratedSpec) (by kernel_rfl) started (by kernel_rfl) Tryz.func3
    (witness_row_at (enc := enc) (C := Tryz.checked) false (Ex.laidWorld os) #[.slice none 0 0] rfl (by kernel_rfl) (by kernel_rfl) (by kernel_rfl) (witness_row os enc)) ?_
  intro W base args ds gs before hval hW hcnd _ hsz hL hsh _
  exact law_row (C := Tryz.checked) rfl c_laws_FnMigrated (N := 8) (by kernel_rfl) (tb := 4) (by kernel_rfl) (by kernel_rfl) (by kernel_rfl) (by kernel_rfl) rfl
    (fun ds h => by
      have h : ds.length = 1 := h
      match ds, h with
      | [d0], _ => rfl)
    bulky_sizeOf (small := fun _ => True) (fun a ds hok _ _ => ⟨_, law_true a hok, rfl⟩) hval hW hsz trivial (Ex.tabs_ok hL hsh)

theorem over : Rows.FnMigratedSaid :=
  OpenClaim.holds_of_cond 3 Tryz.f3 rfl rfl rfl rfl rfl rfl rfl ⟨rfl, rfl, rfl, rfl, rfl⟩ rfl rfl rfl rfl rfl (by kernel_rfl) Tryz.func3 (by kernel_rfl)
    (of_decide_eq_true (by kernel_rfl)) (by unfold Func.isWrapper; first | (rw [if_pos (by decide +kernel)]; kernel_rfl) | (rw [if_neg (by decide +kernel)]; exact ⟨rfl, rfl⟩))
    (fun os started H enc _ F0 => by rw [OpenClaim.pre_eq_preRow]; exact lifted os started H enc F0)
theorem card : Rows.FnMigratedCardSaid :=
  Claim7.holds_tied_plain_at .later [] [.data, .data, .data] true Rows.fnMigratedCard.stood.harness false
    over (fun _ h => by cases h) (by kernel_rfl) (fun _ h => by cases h) fnMigrated_row_tie rfl ⟨rfl, rfl⟩ (by kernel_rfl) rfl
    (fun f fn hf hfn => by
      obtain rfl : f = 3 := Option.some.inj ((show Tryz.prog.funcNamed "loop.example/g03002/laws.FnMigrated" = some 3 by kernel_rfl).symm.trans hf) |>.symm
      obtain rfl : fn = Tryz.f3 := (Option.some.inj (Tryz.func3.symm.trans hfn)).symm
      exact ⟨by kernel_rfl, fun j t ht => by
        have hm : t ∈ [22] := by
          have := Array.mem_of_getElem? ht
          exact List.mem_of_elem_eq_true (by
            have h2 : t ∈ Tryz.f3.params.toList := by simpa using this
            rw [show Tryz.f3.params.toList = [22] by kernel_rfl] at h2
            exact List.elem_eq_true_of_mem h2)
        have hall : ([22].all fun u => !Tryz.prog.wantsStandIn u) = true := by kernel_rfl
        exact (show Tryz.prog.wantsStandIn t = false by simpa using List.all_eq_true.1 hall t hm)⟩)
    (by kernel_rfl)
end Go.Proofs.YtfipolbgkppdjaaGreatDoor.SxFnMigrated
namespace Go.Proofs.YtfipolbgkppdjaaGreatDoor
theorem fnMigrated_holds : Rows.FnMigratedCardSaid := SxFnMigrated.card
end Go.Proofs.YtfipolbgkppdjaaGreatDoor
