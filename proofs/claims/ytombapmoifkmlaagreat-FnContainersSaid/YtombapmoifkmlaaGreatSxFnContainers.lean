/- FnContainers returns true for every input, and each input reads as it did. No condition. -/
import Derived.Test.YtombapmoifkmlaaGreatRows
import Derived.Test.YtombapmoifkmlaaGreatPuFnContainers
import Derived.WalkKit
import Derived.ProofKit
import Derived.ShutString
import Derived.SizedLaws
set_option linter.unusedVariables false
set_option maxRecDepth 100000
set_option maxHeartbeats 4000000
namespace Go.Proofs.YtombapmoifkmlaaGreat.SxFnContainers
open Go Go.Sh Go.RowKit
def y3 : Ty := .int .i64
def y4 : Ty := .bool
def y5 : Ty := .int .u8
def y24 : Ty := .slice 3 y3
def y74 : Ty := .pair y3 (.pair y3 y3)
def y90 : Ty := .pair y3 (.pair y24 y74)
def y92 : Ty := .pair y74 (.pair y3 y90)
def y32 : Ty := .slice 92 y92
def y138 : Ty := .pair y74 (.pair y3 y90)
def y34 : Ty := .slice 138 y138
def y36 : Ty := .pair y34 (.pair y3 (.pair y3 y24))
def y97 : Ty := .pair y3 (.pair y3 (.pair y3 y3))
def y38 : Ty := .slice 97 y97
def y51 : Ty := .slice 5 y5
def y76 : Ty := .pair y3 (.pair y74 y3)
def y55 : Ty := .slice 76 y76
def y57 : Ty := .pair y38 (.pair y55 (.pair y32 y3))
def y63 : Ty := .pair y3 (.pair y24 (.pair y24 y24))
def y67 : Ty := .pair y3 (.pair y3 y63)
def y109 : Ty := .slice 63 y63
def y132 : Ty := .slice 74 y74
def y156 : Ty := .pair y3 y74
def y171 : Ty := .pair y51 (.pair y3 y3)
def tab : List (TypeId × TI) := [(3, { size := 1, bytes := 8, agg := false, ty := some y3 }),
  (4, { size := 1, bytes := 1, agg := false, ty := some y4 }),
  (5, { size := 1, bytes := 1, agg := false, ty := some y5 }),
  (24, { size := 1, bytes := 24, agg := false, ty := some y24, elem := some 3 }),
  (74, { size := 3, bytes := 24, agg := true, ty := some y74, fields := [(0, 3), (1, 3), (2, 3)], eq := true }),
  (90, { size := 5, bytes := 56, agg := true, ty := some y90, fields := [(0, 3), (1, 24), (2, 74)] }),
  (92, { size := 9, bytes := 88, agg := true, ty := some y92, fields := [(0, 74), (3, 3), (4, 90)] }),
  (32, { size := 1, bytes := 24, agg := false, ty := some y32, elem := some 92 }),
  (138, { size := 9, bytes := 88, agg := true, ty := some y138, fields := [(0, 74), (3, 3), (4, 90)] }),
  (34, { size := 1, bytes := 24, agg := false, ty := some y34, elem := some 138 }),
  (36, { size := 4, bytes := 64, agg := true, ty := some y36, fields := [(0, 34), (1, 3), (2, 3), (3, 24)] }),
  (97, { size := 4, bytes := 32, agg := true, ty := some y97, fields := [(0, 3), (1, 3), (2, 3), (3, 3)], eq := true }),
  (38, { size := 1, bytes := 24, agg := false, ty := some y38, elem := some 97 }),
  (51, { size := 1, bytes := 24, agg := false, ty := some y51, elem := some 5 }),
  (76, { size := 5, bytes := 40, agg := true, ty := some y76, fields := [(0, 3), (1, 74), (4, 3)], eq := true }),
  (55, { size := 1, bytes := 24, agg := false, ty := some y55, elem := some 76 }),
  (57, { size := 4, bytes := 80, agg := true, ty := some y57, fields := [(0, 38), (1, 55), (2, 32), (3, 3)] }),
  (63, { size := 4, bytes := 80, agg := true, ty := some y63, fields := [(0, 3), (1, 24), (2, 24), (3, 24)] }),
  (67, { size := 6, bytes := 96, agg := true, ty := some y67, fields := [(0, 3), (1, 3), (2, 63)] }),
  (109, { size := 1, bytes := 24, agg := false, ty := some y109, elem := some 63 }),
  (132, { size := 1, bytes := 24, agg := false, ty := some y132, elem := some 74 }),
  (156, { size := 4, bytes := 32, agg := true, ty := some y156, fields := [(0, 3), (1, 74)] }),
  (171, { size := 3, bytes := 40, agg := true, ty := some y171, fields := [(0, 51), (1, 3), (2, 3)] })]
def look : List (TypeId × TI) → TypeId → Option TI
  | [], _ => none
  | (k, i) :: r, t => if Nat.beq t k = true then some i else look r t
theorem look_ok {P : Program} : ∀ {l : List (TypeId × TI)}, (l.all fun p => tiOk P p.1 p.2) = true → ∀ t i, look l t = some i → tiOk P t i = true
  | [], _, t, i, h => by simp [look] at h
  | (k, j) :: r, h0, t, i, h => by
    simp only [List.all_cons, Bool.and_eq_true] at h0
    simp only [look] at h
    split at h
    · rename_i hk
      simp only [Option.some.injEq] at h
      have := Nat.eq_of_beq_eq_true hk
      subst this; subst h; exact h0.1
    · exact look_ok h0.2 t i h
theorem look_eq {P : Program} : ∀ {l : List (TypeId × TI)}, (l.all fun p => !p.2.eq || eqTop P p.1 p.2.ty) = true → ∀ t i, look l t = some i → i.eq = true → ∀ ty, i.ty = some ty → EqLaw P t ty.zero
  | [], _, t, i, h => by simp [look] at h
  | (k, j) :: r, h0, t, i, h => by
    simp only [List.all_cons, Bool.and_eq_true, Bool.or_eq_true, Bool.not_eq_true'] at h0
    simp only [look] at h
    split at h
    · rename_i hk
      simp only [Option.some.injEq] at h
      have := Nat.eq_of_beq_eq_true hk
      subst this; subst h
      intro he
      exact eqLaw_of (h0.1.resolve_left (by simp [he]))
    · exact look_eq h0.2 t i h
def same : List Nat → List Nat → Bool
  | [], [] => true
  | a :: x, b :: y => Nat.beq a b && same x y
  | _, _ => false
theorem same_eq : ∀ {x y : List Nat}, same x y = true → x = y
  | [], [], _ => rfl
  | a :: x, b :: y, h => by
    simp only [same, Bool.and_eq_true] at h
    rw [Nat.eq_of_beq_eq_true h.1, same_eq h.2]
  | [], _ :: _, h => by simp [same] at h
  | _ :: _, [], h => by simp [same] at h
def fns : List (FuncId × List FuncId × Entry) → FuncId → List FuncId → Option Entry
  | [], _, _ => none
  | (k, c, e) :: r, f, fs => if (Nat.beq f k && same fs c) = true then some e else fns r f fs
theorem fns_nil (P : Program) : ∀ f fs en, fns [] f fs = some en → Contract P f en.sig en.F := fun f fs en h => by simp [fns] at h
theorem fns_cons {P : Program} {k : FuncId} {c : List FuncId} {e : Entry} {r : List (FuncId × List FuncId × Entry)} (hk : Contract P k e.sig e.F) (hr : ∀ f fs en, fns r f fs = some en → Contract P f en.sig en.F) : ∀ f fs en, fns ((k, c, e) :: r) f fs = some en → Contract P f en.sig en.F := fun f fs en h => by
  simp only [fns] at h
  split at h
  · rename_i hf
    simp only [Bool.and_eq_true] at hf
    simp only [Option.some.injEq] at h
    have := Nat.eq_of_beq_eq_true hf.1
    subst this; subst h; exact hk
  · exact hr f fs en h

theorem tab_ti : ∀ t i, look tab t = some i → tiOk Tryz.prog t i = true := look_ok (by kernel_rfl)
theorem tab_eq : ∀ t i, look tab t = some i → i.eq = true → ∀ ty, i.ty = some ty → EqLaw Tryz.prog t ty.zero := look_eq (by kernel_rfl)
theorem mixed : Tryz.prog.follows .mixedOrders = true := by kernel_rfl
def s_laws_big : Sig := { params := [.val false y51], res := [.val false y4] }
noncomputable def e_laws_big : Entry := ⟨s_laws_big, fun a => D.laws_big a⟩
noncomputable def v_laws_big : Env := { ti := look tab, Γ := fns [], loop := fun _ => none, cut := fun _ => none, deep := fun _ => false }
theorem c_laws_big : Contract Tryz.prog 22 e_laws_big.sig e_laws_big.F :=
  den_is (E := v_laws_big) ⟨tab_ti, tab_eq⟩ (fns_nil _) mixed Tryz.func22 (by kernel_rfl) (by kernel_rfl) (fun x => by kernel_rfl)

def s_spec_l1New : Sig := { params := [.val false y51], res := [.ptr y171] }
noncomputable def e_spec_l1New : Entry := ⟨s_spec_l1New, fun a => D.spec_l1New a⟩
noncomputable def v_spec_l1New : Env := { ti := look tab, Γ := fns [], loop := fun b => match b with | 0 => some [.slot 3 (.int .i64), .slot 4 (.int .i64)] | _ => none, cut := fun _ => none, deep := fun _ => false }
theorem c_spec_l1New : Contract Tryz.prog 72 e_spec_l1New.sig e_spec_l1New.F :=
  den_is (E := v_spec_l1New) ⟨tab_ti, tab_eq⟩ (fns_nil _) mixed Tryz.func72 (by kernel_rfl) (by kernel_rfl) (fun x => by kernel_rfl)

def s_spec_l1Byte : Sig := { params := [.ioptr y171], res := [.val false y3] }
noncomputable def e_spec_l1Byte : Entry := ⟨s_spec_l1Byte, fun a => D.spec_l1Byte a⟩
noncomputable def v_spec_l1Byte : Env := { ti := look tab, Γ := fns [], loop := fun _ => none, cut := fun _ => none, deep := fun _ => false }
theorem c_spec_l1Byte : Contract Tryz.prog 138 e_spec_l1Byte.sig e_spec_l1Byte.F :=
  den_is (E := v_spec_l1Byte) ⟨tab_ti, tab_eq⟩ (fns_nil _) mixed Tryz.func138 (by kernel_rfl) (by kernel_rfl) (fun x => by kernel_rfl)

def s_spec_l1Below : Sig := { params := [.ioptr y171, .val false y3], res := [.val false y3] }
noncomputable def e_spec_l1Below : Entry := ⟨s_spec_l1Below, fun a => D.spec_l1Below a.1 a.2⟩
noncomputable def v_spec_l1Below : Env := { ti := look tab, Γ := fns [(138, [], e_spec_l1Byte)], loop := fun _ => none, cut := fun _ => none, deep := fun _ => false }
theorem c_spec_l1Below : Contract Tryz.prog 116 e_spec_l1Below.sig e_spec_l1Below.F :=
  den_is (E := v_spec_l1Below) ⟨tab_ti, tab_eq⟩ (fns_cons c_spec_l1Byte (fns_nil _)) mixed Tryz.func116 (by kernel_rfl) (by kernel_rfl) (fun x => by kernel_rfl)

def s_spec_l1Once : Sig := { params := [.ioptr y171, .val false y3], res := [.val false y4] }
noncomputable def e_spec_l1Once : Entry := ⟨s_spec_l1Once, fun a => D.spec_l1Once a.1 a.2⟩
noncomputable def v_spec_l1Once : Env := { ti := look tab, Γ := fns [(116, [], e_spec_l1Below)], loop := fun _ => none, cut := fun _ => none, deep := fun _ => false }
theorem c_spec_l1Once : Contract Tryz.prog 74 e_spec_l1Once.sig e_spec_l1Once.F :=
  den_is (E := v_spec_l1Once) ⟨tab_ti, tab_eq⟩ (fns_cons c_spec_l1Below (fns_nil _)) mixed Tryz.func74 (by kernel_rfl) (by kernel_rfl) (fun x => by kernel_rfl)

def s_spec_l10Op : Sig := { params := [.ioptr y171], res := [.val true y97] }
noncomputable def e_spec_l10Op : Entry := ⟨s_spec_l10Op, fun a => D.spec_l10Op a⟩
noncomputable def v_spec_l10Op : Env := { ti := look tab, Γ := fns [(116, [], e_spec_l1Below), (74, [], e_spec_l1Once)], loop := fun _ => none, cut := fun _ => none, deep := fun _ => false }
theorem c_spec_l10Op : Contract Tryz.prog 155 e_spec_l10Op.sig e_spec_l10Op.F :=
  den_is (E := v_spec_l10Op) ⟨tab_ti, tab_eq⟩ (fns_cons c_spec_l1Below (fns_cons c_spec_l1Once (fns_nil _))) mixed Tryz.func155 (by kernel_rfl) (by kernel_rfl) (fun x => by kernel_rfl)

def s_spec_l10Draw : Sig := { params := [.ioptr y171], res := [.row 97 y97 false] }
noncomputable def e_spec_l10Draw : Entry := ⟨s_spec_l10Draw, fun a => D.spec_l10Draw a⟩
noncomputable def v_spec_l10Draw : Env := { ti := look tab, Γ := fns [(116, [], e_spec_l1Below), (155, [], e_spec_l10Op)], loop := fun b => match b with | 0 => some [.slot 3 (.own 97 y97 false), .slot 4 (.int .i64), .box 0 [.ro 5 y5, .int .i64, .int .i64]] | _ => none, cut := fun _ => none, deep := fun _ => false }
theorem c_spec_l10Draw : Contract Tryz.prog 127 e_spec_l10Draw.sig e_spec_l10Draw.F :=
  den_is (E := v_spec_l10Draw) ⟨tab_ti, tab_eq⟩ (fns_cons c_spec_l1Below (fns_cons c_spec_l10Op (fns_nil _))) mixed Tryz.func127 (by kernel_rfl) (by kernel_rfl) (fun x => by kernel_rfl)

def s_spec_l1Int : Sig := { params := [.ioptr y171, .val false y24], res := [.val false y3] }
noncomputable def e_spec_l1Int : Entry := ⟨s_spec_l1Int, fun a => D.spec_l1Int a.1 a.2⟩
noncomputable def v_spec_l1Int : Env := { ti := look tab, Γ := fns [(116, [], e_spec_l1Below)], loop := fun _ => none, cut := fun _ => none, deep := fun _ => false }
theorem c_spec_l1Int : Contract Tryz.prog 128 e_spec_l1Int.sig e_spec_l1Int.F :=
  den_is (E := v_spec_l1Int) ⟨tab_ti, tab_eq⟩ (fns_cons c_spec_l1Below (fns_nil _)) mixed Tryz.func128 (by kernel_rfl) (by kernel_rfl) (fun x => by kernel_rfl)

def s_spec_l4Raw : Sig := { params := [.ioptr y171], res := [.val false y3] }
noncomputable def e_spec_l4Raw : Entry := ⟨s_spec_l4Raw, fun a => D.spec_l4Raw a⟩
noncomputable def v_spec_l4Raw : Env := { ti := look tab, Γ := fns [(128, [], e_spec_l1Int)], loop := fun _ => none, cut := fun _ => none, deep := fun _ => false }
theorem c_spec_l4Raw : Contract Tryz.prog 129 e_spec_l4Raw.sig e_spec_l4Raw.F :=
  den_is (E := v_spec_l4Raw) ⟨tab_ti, tab_eq⟩ (fns_cons c_spec_l1Int (fns_nil _)) mixed Tryz.func129 (by kernel_rfl) (by kernel_rfl) (fun x => by kernel_rfl)

def s_spec_l10Any : Sig := { params := [.ioptr y171], res := [.row 97 y97 false] }
noncomputable def e_spec_l10Any : Entry := ⟨s_spec_l10Any, fun a => D.spec_l10Any a⟩
noncomputable def v_spec_l10Any : Env := { ti := look tab, Γ := fns [(127, [], e_spec_l10Draw), (116, [], e_spec_l1Below), (128, [], e_spec_l1Int), (129, [], e_spec_l4Raw)], loop := fun b => match b with | 1 => some [.slot 3 (.own 97 y97 false)] | _ => none, cut := fun _ => none, deep := fun _ => false }
theorem c_spec_l10Any : Contract Tryz.prog 91 e_spec_l10Any.sig e_spec_l10Any.F :=
  den_is (E := v_spec_l10Any) ⟨tab_ti, tab_eq⟩ (fns_cons c_spec_l10Draw (fns_cons c_spec_l1Below (fns_cons c_spec_l1Int (fns_cons c_spec_l4Raw (fns_nil _))))) mixed Tryz.func91 (by kernel_rfl) (by kernel_rfl) (fun x => by kernel_rfl)

def s_spec_l4Draw : Sig := { params := [.ioptr y171], res := [.val true y74] }
noncomputable def e_spec_l4Draw : Entry := ⟨s_spec_l4Draw, fun a => D.spec_l4Draw a⟩
noncomputable def v_spec_l4Draw : Env := { ti := look tab, Γ := fns [(116, [], e_spec_l1Below)], loop := fun _ => none, cut := fun _ => none, deep := fun _ => false }
theorem c_spec_l4Draw : Contract Tryz.prog 173 e_spec_l4Draw.sig e_spec_l4Draw.F :=
  den_is (E := v_spec_l4Draw) ⟨tab_ti, tab_eq⟩ (fns_cons c_spec_l1Below (fns_nil _)) mixed Tryz.func173 (by kernel_rfl) (by kernel_rfl) (fun x => by kernel_rfl)

def s_spec_l5Body : Sig := { params := [.ioptr y171], res := [.row 3 y3 false] }
noncomputable def e_spec_l5Body : Entry := ⟨s_spec_l5Body, fun a => D.spec_l5Body a⟩
noncomputable def v_spec_l5Body : Env := { ti := look tab, Γ := fns [(116, [], e_spec_l1Below)], loop := fun b => match b with | 0 => some [.slot 3 (.own 3 y3 false), .slot 4 (.int .i64), .box 0 [.ro 5 y5, .int .i64, .int .i64]] | _ => none, cut := fun _ => none, deep := fun _ => false }
theorem c_spec_l5Body : Contract Tryz.prog 179 e_spec_l5Body.sig e_spec_l5Body.F :=
  den_is (E := v_spec_l5Body) ⟨tab_ti, tab_eq⟩ (fns_cons c_spec_l1Below (fns_nil _)) mixed Tryz.func179 (by kernel_rfl) (by kernel_rfl) (fun x => by kernel_rfl)

def s_spec_l5Draw : Sig := { params := [.ioptr y171], res := [.val false y3, .row 3 y3 false, .val false y3, .val false y3, .val false y3], rgroups := [some 5] }
noncomputable def e_spec_l5Draw : Entry := ⟨s_spec_l5Draw, fun a => D.spec_l5Draw a⟩
noncomputable def v_spec_l5Draw : Env := { ti := look tab, Γ := fns [(116, [], e_spec_l1Below), (173, [], e_spec_l4Draw), (179, [], e_spec_l5Body)], loop := fun _ => none, cut := fun _ => none, deep := fun _ => false }
theorem c_spec_l5Draw : Contract Tryz.prog 174 e_spec_l5Draw.sig e_spec_l5Draw.F :=
  den_is (E := v_spec_l5Draw) ⟨tab_ti, tab_eq⟩ (fns_cons c_spec_l1Below (fns_cons c_spec_l4Draw (fns_cons c_spec_l5Body (fns_nil _)))) mixed Tryz.func174 (by kernel_rfl) (by kernel_rfl) (fun x => by kernel_rfl)

def s_spec_l9Draw : Sig := { params := [.ioptr y171], res := [.row 138 y138 true] }
noncomputable def e_spec_l9Draw : Entry := ⟨s_spec_l9Draw, fun a => D.spec_l9Draw a⟩
noncomputable def v_spec_l9Draw : Env := { ti := look tab, Γ := fns [(116, [], e_spec_l1Below), (173, [], e_spec_l4Draw), (174, [], e_spec_l5Draw)], loop := fun b => match b with | 0 => some [.slot 3 (.own 138 y138 true), .slot 4 (.int .i64), .box 0 [.ro 5 y5, .int .i64, .int .i64]] | _ => none, cut := fun _ => none, deep := fun t => Nat.beq t 5 || Nat.beq t 20 }
theorem c_spec_l9Draw : Contract Tryz.prog 156 e_spec_l9Draw.sig e_spec_l9Draw.F :=
  den_is (E := v_spec_l9Draw) ⟨tab_ti, tab_eq⟩ (fns_cons c_spec_l1Below (fns_cons c_spec_l4Draw (fns_cons c_spec_l5Draw (fns_nil _)))) mixed Tryz.func156 (by kernel_rfl) (by kernel_rfl) (fun x => by kernel_rfl)

def s_spec_l12Draw : Sig := { params := [.ioptr y171], res := [.row 138 y138 true, .val false y3, .val false y3, .row 3 y3 false], rgroups := [some 4] }
noncomputable def e_spec_l12Draw : Entry := ⟨s_spec_l12Draw, fun a => D.spec_l12Draw a⟩
noncomputable def v_spec_l12Draw : Env := { ti := look tab, Γ := fns [(156, [], e_spec_l9Draw), (116, [], e_spec_l1Below)], loop := fun b => match b with | 0 => some [.slot 4 (.int .i64), .box 0 [.ro 5 y5, .int .i64, .int .i64], .box 3 [.own 138 y138 true, .int .i64, .int .i64, .own 3 y3 false]] | _ => none, cut := fun _ => none, deep := fun _ => false }
theorem c_spec_l12Draw : Contract Tryz.prog 130 e_spec_l12Draw.sig e_spec_l12Draw.F :=
  den_is (E := v_spec_l12Draw) ⟨tab_ti, tab_eq⟩ (fns_cons c_spec_l9Draw (fns_cons c_spec_l1Below (fns_nil _))) mixed Tryz.func130 (by kernel_rfl) (by kernel_rfl) (fun x => by kernel_rfl)

def s_spec_l4Any : Sig := { params := [.ioptr y171], res := [.val true y74] }
noncomputable def e_spec_l4Any : Entry := ⟨s_spec_l4Any, fun a => D.spec_l4Any a⟩
noncomputable def v_spec_l4Any : Env := { ti := look tab, Γ := fns [(173, [], e_spec_l4Draw), (116, [], e_spec_l1Below), (129, [], e_spec_l4Raw)], loop := fun _ => none, cut := fun _ => none, deep := fun _ => false }
theorem c_spec_l4Any : Contract Tryz.prog 157 e_spec_l4Any.sig e_spec_l4Any.F :=
  den_is (E := v_spec_l4Any) ⟨tab_ti, tab_eq⟩ (fns_cons c_spec_l4Draw (fns_cons c_spec_l1Below (fns_cons c_spec_l4Raw (fns_nil _)))) mixed Tryz.func157 (by kernel_rfl) (by kernel_rfl) (fun x => by kernel_rfl)

def s_spec_l5Any : Sig := { params := [.ioptr y171], res := [.val false y3, .row 3 y3 false, .val false y3, .val false y3, .val false y3], rgroups := [some 5] }
noncomputable def e_spec_l5Any : Entry := ⟨s_spec_l5Any, fun a => D.spec_l5Any a⟩
noncomputable def v_spec_l5Any : Env := { ti := look tab, Γ := fns [(174, [], e_spec_l5Draw), (116, [], e_spec_l1Below), (128, [], e_spec_l1Int), (157, [], e_spec_l4Any)], loop := fun _ => none, cut := fun _ => none, deep := fun _ => false }
theorem c_spec_l5Any : Contract Tryz.prog 158 e_spec_l5Any.sig e_spec_l5Any.F :=
  den_is (E := v_spec_l5Any) ⟨tab_ti, tab_eq⟩ (fns_cons c_spec_l5Draw (fns_cons c_spec_l1Below (fns_cons c_spec_l1Int (fns_cons c_spec_l4Any (fns_nil _))))) mixed Tryz.func158 (by kernel_rfl) (by kernel_rfl) (fun x => by kernel_rfl)

def s_spec_l9Any : Sig := { params := [.ioptr y171], res := [.row 138 y138 true] }
noncomputable def e_spec_l9Any : Entry := ⟨s_spec_l9Any, fun a => D.spec_l9Any a⟩
noncomputable def v_spec_l9Any : Env := { ti := look tab, Γ := fns [(156, [], e_spec_l9Draw), (116, [], e_spec_l1Below), (157, [], e_spec_l4Any), (128, [], e_spec_l1Int), (158, [], e_spec_l5Any)], loop := fun _ => none, cut := fun _ => none, deep := fun _ => false }
theorem c_spec_l9Any : Contract Tryz.prog 131 e_spec_l9Any.sig e_spec_l9Any.F :=
  den_is (E := v_spec_l9Any) ⟨tab_ti, tab_eq⟩ (fns_cons c_spec_l9Draw (fns_cons c_spec_l1Below (fns_cons c_spec_l4Any (fns_cons c_spec_l1Int (fns_cons c_spec_l5Any (fns_nil _)))))) mixed Tryz.func131 (by kernel_rfl) (by kernel_rfl) (fun x => by kernel_rfl)

def s_spec_l12Any : Sig := { params := [.ioptr y171], res := [.row 138 y138 true, .val false y3, .val false y3, .row 3 y3 false], rgroups := [some 4] }
noncomputable def e_spec_l12Any : Entry := ⟨s_spec_l12Any, fun a => D.spec_l12Any a⟩
noncomputable def v_spec_l12Any : Env := { ti := look tab, Γ := fns [(130, [], e_spec_l12Draw), (116, [], e_spec_l1Below), (128, [], e_spec_l1Int), (131, [], e_spec_l9Any)], loop := fun b => match b with | 1 => some [.box 3 [.own 138 y138 true, .int .i64, .int .i64, .own 3 y3 false]] | _ => none, cut := fun _ => none, deep := fun _ => false }
theorem c_spec_l12Any : Contract Tryz.prog 92 e_spec_l12Any.sig e_spec_l12Any.F :=
  den_is (E := v_spec_l12Any) ⟨tab_ti, tab_eq⟩ (fns_cons c_spec_l12Draw (fns_cons c_spec_l1Below (fns_cons c_spec_l1Int (fns_cons c_spec_l9Any (fns_nil _))))) mixed Tryz.func92 (by kernel_rfl) (by kernel_rfl) (fun x => by kernel_rfl)

def s_spec_DrawRecordVisit : Sig := { params := [.val false y51], res := [.row 97 y97 false, .row 138 y138 true, .val false y3, .val false y3, .row 3 y3 false], rgroups := [none, some 4] }
noncomputable def e_spec_DrawRecordVisit : Entry := ⟨s_spec_DrawRecordVisit, fun a => D.spec_DrawRecordVisit a⟩
noncomputable def v_spec_DrawRecordVisit : Env := { ti := look tab, Γ := fns [(72, [], e_spec_l1New), (91, [], e_spec_l10Any), (92, [], e_spec_l12Any)], loop := fun _ => none, cut := fun _ => none, deep := fun _ => false }
theorem c_spec_DrawRecordVisit : Contract Tryz.prog 49 e_spec_DrawRecordVisit.sig e_spec_DrawRecordVisit.F :=
  den_is (E := v_spec_DrawRecordVisit) ⟨tab_ti, tab_eq⟩ (fns_cons c_spec_l1New (fns_cons c_spec_l10Any (fns_cons c_spec_l12Any (fns_nil _)))) mixed Tryz.func49 (by kernel_rfl) (by kernel_rfl) (fun x => by kernel_rfl)

def s_spec_DrawContainVisit : Sig := { params := [.val false y51], res := [.row 97 y97 false, .row 138 y138 true, .val false y3, .val false y3, .row 3 y3 false], rgroups := [none, some 4] }
noncomputable def e_spec_DrawContainVisit : Entry := ⟨s_spec_DrawContainVisit, fun a => D.spec_DrawContainVisit a⟩
noncomputable def v_spec_DrawContainVisit : Env := { ti := look tab, Γ := fns [(49, [], e_spec_DrawRecordVisit)], loop := fun _ => none, cut := fun _ => none, deep := fun _ => false }
theorem c_spec_DrawContainVisit : Contract Tryz.prog 23 e_spec_DrawContainVisit.sig e_spec_DrawContainVisit.F :=
  den_is (E := v_spec_DrawContainVisit) ⟨tab_ti, tab_eq⟩ (fns_cons c_spec_DrawRecordVisit (fns_nil _)) mixed Tryz.func23 (by kernel_rfl) (by kernel_rfl) (fun x => by kernel_rfl)

def s_impl_at : Sig := { params := [.val false y3, .val false y3], res := [.val false y4] }
noncomputable def e_impl_at : Entry := ⟨s_impl_at, fun a => D.impl_at a.1 a.2⟩
noncomputable def v_impl_at : Env := { ti := look tab, Γ := fns [], loop := fun _ => none, cut := fun _ => none, deep := fun _ => false }
theorem c_impl_at : Contract Tryz.prog 94 e_impl_at.sig e_impl_at.F :=
  den_is (E := v_impl_at) ⟨tab_ti, tab_eq⟩ (fns_nil _) mixed Tryz.func94 (by kernel_rfl) (by kernel_rfl) (fun x => by kernel_rfl)

def s_impl_InRange : Sig := { params := [.val false y3, .val false y3, .val false y3], res := [.val false y4] }
noncomputable def e_impl_InRange : Entry := ⟨s_impl_InRange, fun a => D.impl_InRange a.1 a.2.1 a.2.2⟩
noncomputable def v_impl_InRange : Env := { ti := look tab, Γ := fns [], loop := fun _ => none, cut := fun _ => none, deep := fun _ => false }
theorem c_impl_InRange : Contract Tryz.prog 54 e_impl_InRange.sig e_impl_InRange.F :=
  den_is (E := v_impl_InRange) ⟨tab_ti, tab_eq⟩ (fns_nil _) mixed Tryz.func54 (by kernel_rfl) (by kernel_rfl) (fun x => by kernel_rfl)

def s_impl_isOp : Sig := { params := [.val true y97], res := [.val false y4] }
noncomputable def e_impl_isOp : Entry := ⟨s_impl_isOp, fun a => D.impl_isOp a⟩
noncomputable def v_impl_isOp : Env := { ti := look tab, Γ := fns [(94, [], e_impl_at), (54, [], e_impl_InRange)], loop := fun _ => none, cut := fun _ => none, deep := fun _ => false }
theorem c_impl_isOp : Contract Tryz.prog 52 e_impl_isOp.sig e_impl_isOp.F :=
  den_is (E := v_impl_isOp) ⟨tab_ti, tab_eq⟩ (fns_cons c_impl_at (fns_cons c_impl_InRange (fns_nil _))) mixed Tryz.func52 (by kernel_rfl) (by kernel_rfl) (fun x => by kernel_rfl)

def s_impl_IsScript_1 : Sig := { params := [.val true y97], res := [.val false y4] }
noncomputable def e_impl_IsScript_1 : Entry := ⟨s_impl_IsScript_1, fun a => D.impl_IsScript_1 a⟩
noncomputable def v_impl_IsScript_1 : Env := { ti := look tab, Γ := fns [(52, [], e_impl_isOp)], loop := fun _ => none, cut := fun _ => none, deep := fun _ => false }
theorem c_impl_IsScript_1 : Contract Tryz.prog 51 e_impl_IsScript_1.sig e_impl_IsScript_1.F :=
  den_is (E := v_impl_IsScript_1) ⟨tab_ti, tab_eq⟩ (fns_cons c_impl_isOp (fns_nil _)) mixed Tryz.func51 (by kernel_rfl) (by kernel_rfl) (fun x => by kernel_rfl)

def s_slices_IndexFunc_Op_impl_IsScript_1 : Sig := { params := [.val false y38, .fn 51 []], res := [.val false y3] }
noncomputable def e_slices_IndexFunc_Op_impl_IsScript_1 : Entry := ⟨s_slices_IndexFunc_Op_impl_IsScript_1, fun a => D.slices_IndexFunc_Op_impl_IsScript_1 a.1⟩
noncomputable def v_slices_IndexFunc_Op_impl_IsScript_1 : Env := { ti := look tab, Γ := fns [(51, [], e_impl_IsScript_1)], loop := fun b => match b with | 0 => some [.slot 8 (.int .i64)] | _ => none, cut := fun _ => none, deep := fun _ => false }
theorem c_slices_IndexFunc_Op_impl_IsScript_1 : Contract Tryz.prog 93 e_slices_IndexFunc_Op_impl_IsScript_1.sig e_slices_IndexFunc_Op_impl_IsScript_1.F :=
  den_is (E := v_slices_IndexFunc_Op_impl_IsScript_1) ⟨tab_ti, tab_eq⟩ (fns_cons c_impl_IsScript_1 (fns_nil _)) mixed Tryz.func93 (by kernel_rfl) (by kernel_rfl) (fun x => by kernel_rfl)

def s_slices_ContainsFunc_Op_impl_IsScript_1 : Sig := { params := [.val false y38, .fn 51 []], res := [.val false y4] }
noncomputable def e_slices_ContainsFunc_Op_impl_IsScript_1 : Entry := ⟨s_slices_ContainsFunc_Op_impl_IsScript_1, fun a => D.slices_ContainsFunc_Op_impl_IsScript_1 a.1⟩
noncomputable def v_slices_ContainsFunc_Op_impl_IsScript_1 : Env := { ti := look tab, Γ := fns [(93, [51], e_slices_IndexFunc_Op_impl_IsScript_1)], loop := fun _ => none, cut := fun _ => none, deep := fun _ => false }
theorem c_slices_ContainsFunc_Op_impl_IsScript_1 : Contract Tryz.prog 50 e_slices_ContainsFunc_Op_impl_IsScript_1.sig e_slices_ContainsFunc_Op_impl_IsScript_1.F :=
  den_is (E := v_slices_ContainsFunc_Op_impl_IsScript_1) ⟨tab_ti, tab_eq⟩ (fns_cons c_slices_IndexFunc_Op_impl_IsScript_1 (fns_nil _)) mixed Tryz.func50 (by kernel_rfl) (by kernel_rfl) (fun x => by kernel_rfl)

def s_impl_IsScript : Sig := { params := [.val false y38], res := [.val false y4] }
noncomputable def e_impl_IsScript : Entry := ⟨s_impl_IsScript, fun a => D.impl_IsScript a⟩
noncomputable def v_impl_IsScript : Env := { ti := look tab, Γ := fns [(50, [51], e_slices_ContainsFunc_Op_impl_IsScript_1)], loop := fun _ => none, cut := fun _ => none, deep := fun _ => false }
theorem c_impl_IsScript : Contract Tryz.prog 25 e_impl_IsScript.sig e_impl_IsScript.F :=
  den_is (E := v_impl_IsScript) ⟨tab_ti, tab_eq⟩ (fns_cons c_slices_ContainsFunc_Op_impl_IsScript_1 (fns_nil _)) mixed Tryz.func25 (by kernel_rfl) (by kernel_rfl) (fun x => by kernel_rfl)

def s_impl_IsAddress : Sig := { params := [.val true y74], res := [.val false y4] }
noncomputable def e_impl_IsAddress : Entry := ⟨s_impl_IsAddress, fun a => D.impl_IsAddress a⟩
noncomputable def v_impl_IsAddress : Env := { ti := look tab, Γ := fns [(54, [], e_impl_InRange)], loop := fun _ => none, cut := fun _ => none, deep := fun _ => false }
theorem c_impl_IsAddress : Contract Tryz.prog 97 e_impl_IsAddress.sig e_impl_IsAddress.F :=
  den_is (E := v_impl_IsAddress) ⟨tab_ti, tab_eq⟩ (fns_cons c_impl_InRange (fns_nil _)) mixed Tryz.func97 (by kernel_rfl) (by kernel_rfl) (fun x => by kernel_rfl)

def s_impl_allIn : Sig := { params := [.val false y24, .val false y3, .val false y3], res := [.val false y4] }
noncomputable def e_impl_allIn : Entry := ⟨s_impl_allIn, fun a => D.impl_allIn a.1 a.2.1 a.2.2⟩
noncomputable def v_impl_allIn : Env := { ti := look tab, Γ := fns [(54, [], e_impl_InRange)], loop := fun b => match b with | 0 => some [.slot 11 (.int .i64)] | _ => none, cut := fun _ => none, deep := fun _ => false }
theorem c_impl_allIn : Contract Tryz.prog 55 e_impl_allIn.sig e_impl_allIn.F :=
  den_is (E := v_impl_allIn) ⟨tab_ti, tab_eq⟩ (fns_cons c_impl_InRange (fns_nil _)) mixed Tryz.func55 (by kernel_rfl) (by kernel_rfl) (fun x => by kernel_rfl)

def s_impl_IsResource : Sig := { params := [.val true y90], res := [.val false y4] }
noncomputable def e_impl_IsResource : Entry := ⟨s_impl_IsResource, fun a => D.impl_IsResource a⟩
noncomputable def v_impl_IsResource : Env := { ti := look tab, Γ := fns [(55, [], e_impl_allIn), (97, [], e_impl_IsAddress)], loop := fun _ => none, cut := fun _ => none, deep := fun _ => false }
theorem c_impl_IsResource : Contract Tryz.prog 98 e_impl_IsResource.sig e_impl_IsResource.F :=
  den_is (E := v_impl_IsResource) ⟨tab_ti, tab_eq⟩ (fns_cons c_impl_allIn (fns_cons c_impl_IsAddress (fns_nil _))) mixed Tryz.func98 (by kernel_rfl) (by kernel_rfl) (fun x => by kernel_rfl)

def s_impl_IsSite_1 : Sig := { params := [.val true y138], res := [.val false y4] }
noncomputable def e_impl_IsSite_1 : Entry := ⟨s_impl_IsSite_1, fun a => D.impl_IsSite_1 a⟩
noncomputable def v_impl_IsSite_1 : Env := { ti := look tab, Γ := fns [(97, [], e_impl_IsAddress), (54, [], e_impl_InRange), (98, [], e_impl_IsResource)], loop := fun _ => none, cut := fun _ => none, deep := fun _ => false }
theorem c_impl_IsSite_1 : Contract Tryz.prog 96 e_impl_IsSite_1.sig e_impl_IsSite_1.F :=
  den_is (E := v_impl_IsSite_1) ⟨tab_ti, tab_eq⟩ (fns_cons c_impl_IsAddress (fns_cons c_impl_InRange (fns_cons c_impl_IsResource (fns_nil _)))) mixed Tryz.func96 (by kernel_rfl) (by kernel_rfl) (fun x => by kernel_rfl)

def s_slices_IndexFunc_Version_impl_IsSite_1 : Sig := { params := [.val false y34, .fn 96 []], res := [.val false y3] }
noncomputable def e_slices_IndexFunc_Version_impl_IsSite_1 : Entry := ⟨s_slices_IndexFunc_Version_impl_IsSite_1, fun a => D.slices_IndexFunc_Version_impl_IsSite_1 a.1⟩
noncomputable def v_slices_IndexFunc_Version_impl_IsSite_1 : Env := { ti := look tab, Γ := fns [(96, [], e_impl_IsSite_1)], loop := fun b => match b with | 0 => some [.slot 8 (.int .i64)] | _ => none, cut := fun _ => none, deep := fun _ => false }
theorem c_slices_IndexFunc_Version_impl_IsSite_1 : Contract Tryz.prog 132 e_slices_IndexFunc_Version_impl_IsSite_1.sig e_slices_IndexFunc_Version_impl_IsSite_1.F :=
  den_is (E := v_slices_IndexFunc_Version_impl_IsSite_1) ⟨tab_ti, tab_eq⟩ (fns_cons c_impl_IsSite_1 (fns_nil _)) mixed Tryz.func132 (by kernel_rfl) (by kernel_rfl) (fun x => by kernel_rfl)

def s_slices_ContainsFunc_Version_impl_IsSite_1 : Sig := { params := [.val false y34, .fn 96 []], res := [.val false y4] }
noncomputable def e_slices_ContainsFunc_Version_impl_IsSite_1 : Entry := ⟨s_slices_ContainsFunc_Version_impl_IsSite_1, fun a => D.slices_ContainsFunc_Version_impl_IsSite_1 a.1⟩
noncomputable def v_slices_ContainsFunc_Version_impl_IsSite_1 : Env := { ti := look tab, Γ := fns [(132, [96], e_slices_IndexFunc_Version_impl_IsSite_1)], loop := fun _ => none, cut := fun _ => none, deep := fun _ => false }
theorem c_slices_ContainsFunc_Version_impl_IsSite_1 : Contract Tryz.prog 95 e_slices_ContainsFunc_Version_impl_IsSite_1.sig e_slices_ContainsFunc_Version_impl_IsSite_1.F :=
  den_is (E := v_slices_ContainsFunc_Version_impl_IsSite_1) ⟨tab_ti, tab_eq⟩ (fns_cons c_slices_IndexFunc_Version_impl_IsSite_1 (fns_nil _)) mixed Tryz.func95 (by kernel_rfl) (by kernel_rfl) (fun x => by kernel_rfl)

def s_impl_IsSite : Sig := { params := [.val false y34], res := [.val false y4] }
noncomputable def e_impl_IsSite : Entry := ⟨s_impl_IsSite, fun a => D.impl_IsSite a⟩
noncomputable def v_impl_IsSite : Env := { ti := look tab, Γ := fns [(95, [96], e_slices_ContainsFunc_Version_impl_IsSite_1)], loop := fun _ => none, cut := fun _ => none, deep := fun _ => false }
theorem c_impl_IsSite : Contract Tryz.prog 53 e_impl_IsSite.sig e_impl_IsSite.F :=
  den_is (E := v_impl_IsSite) ⟨tab_ti, tab_eq⟩ (fns_cons c_slices_ContainsFunc_Version_impl_IsSite_1 (fns_nil _)) mixed Tryz.func53 (by kernel_rfl) (by kernel_rfl) (fun x => by kernel_rfl)

def s_impl_IsVisit : Sig := { params := [.val true y36], res := [.val false y4] }
noncomputable def e_impl_IsVisit : Entry := ⟨s_impl_IsVisit, fun a => D.impl_IsVisit a⟩
noncomputable def v_impl_IsVisit : Env := { ti := look tab, Γ := fns [(53, [], e_impl_IsSite), (54, [], e_impl_InRange), (55, [], e_impl_allIn)], loop := fun _ => none, cut := fun _ => none, deep := fun _ => false }
theorem c_impl_IsVisit : Contract Tryz.prog 26 e_impl_IsVisit.sig e_impl_IsVisit.F :=
  den_is (E := v_impl_IsVisit) ⟨tab_ti, tab_eq⟩ (fns_cons c_impl_IsSite (fns_cons c_impl_InRange (fns_cons c_impl_allIn (fns_nil _)))) mixed Tryz.func26 (by kernel_rfl) (by kernel_rfl) (fun x => by kernel_rfl)

def s_impl_StartState : Sig := { params := [], res := [.val false y3, .row 3 y3 false, .row 3 y3 false, .row 3 y3 false], rgroups := [some 4] }
noncomputable def e_impl_StartState : Entry := ⟨s_impl_StartState, fun _ => D.impl_StartState⟩
noncomputable def v_impl_StartState : Env := { ti := look tab, Γ := fns [], loop := fun _ => none, cut := fun _ => none, deep := fun _ => false }
theorem c_impl_StartState : Contract Tryz.prog 99 e_impl_StartState.sig e_impl_StartState.F :=
  den_is (E := v_impl_StartState) ⟨tab_ti, tab_eq⟩ (fns_nil _) mixed Tryz.func99 (by kernel_rfl) (by kernel_rfl) (fun x => by kernel_rfl)

def s_impl_IsDone : Sig := { params := [.val false y38, .val true y63], res := [.val false y4] }
noncomputable def e_impl_IsDone : Entry := ⟨s_impl_IsDone, fun a => D.impl_IsDone a.1 a.2⟩
noncomputable def v_impl_IsDone : Env := { ti := look tab, Γ := fns [], loop := fun _ => none, cut := fun _ => none, deep := fun _ => false }
theorem c_impl_IsDone : Contract Tryz.prog 100 e_impl_IsDone.sig e_impl_IsDone.F :=
  den_is (E := v_impl_IsDone) ⟨tab_ti, tab_eq⟩ (fns_nil _) mixed Tryz.func100 (by kernel_rfl) (by kernel_rfl) (fun x => by kernel_rfl)

def s_impl_IsState : Sig := { params := [.val true y63], res := [.val false y4] }
noncomputable def e_impl_IsState : Entry := ⟨s_impl_IsState, fun a => D.impl_IsState a⟩
noncomputable def v_impl_IsState : Env := { ti := look tab, Γ := fns [(54, [], e_impl_InRange), (55, [], e_impl_allIn)], loop := fun _ => none, cut := fun _ => none, deep := fun _ => false }
theorem c_impl_IsState : Contract Tryz.prog 159 e_impl_IsState.sig e_impl_IsState.F :=
  den_is (E := v_impl_IsState) ⟨tab_ti, tab_eq⟩ (fns_cons c_impl_InRange (fns_cons c_impl_allIn (fns_nil _))) mixed Tryz.func159 (by kernel_rfl) (by kernel_rfl) (fun x => by kernel_rfl)

def s_impl_canStep : Sig := { params := [.val false y38, .val true y63], res := [.val false y4] }
noncomputable def e_impl_canStep : Entry := ⟨s_impl_canStep, fun a => D.impl_canStep a.1 a.2⟩
noncomputable def v_impl_canStep : Env := { ti := look tab, Γ := fns [(25, [], e_impl_IsScript), (159, [], e_impl_IsState)], loop := fun _ => none, cut := fun _ => none, deep := fun _ => false }
theorem c_impl_canStep : Contract Tryz.prog 133 e_impl_canStep.sig e_impl_canStep.F :=
  den_is (E := v_impl_canStep) ⟨tab_ti, tab_eq⟩ (fns_cons c_impl_IsScript (fns_cons c_impl_IsState (fns_nil _))) mixed Tryz.func133 (by kernel_rfl) (by kernel_rfl) (fun x => by kernel_rfl)

def s_impl_Asks : Sig := { params := [.val false y3], res := [.val false y4] }
noncomputable def e_impl_Asks : Entry := ⟨s_impl_Asks, fun a => D.impl_Asks a⟩
noncomputable def v_impl_Asks : Env := { ti := look tab, Γ := fns [(54, [], e_impl_InRange)], loop := fun _ => none, cut := fun _ => none, deep := fun _ => false }
theorem c_impl_Asks : Contract Tryz.prog 108 e_impl_Asks.sig e_impl_Asks.F :=
  den_is (E := v_impl_Asks) ⟨tab_ti, tab_eq⟩ (fns_cons c_impl_InRange (fns_nil _)) mixed Tryz.func108 (by kernel_rfl) (by kernel_rfl) (fun x => by kernel_rfl)

def s_impl_WantOf : Sig := { params := [.val false y38, .val true y63], res := [.val true y156] }
noncomputable def e_impl_WantOf : Entry := ⟨s_impl_WantOf, fun a => D.impl_WantOf a.1 a.2⟩
noncomputable def v_impl_WantOf : Env := { ti := look tab, Γ := fns [(133, [], e_impl_canStep), (108, [], e_impl_Asks)], loop := fun _ => none, cut := fun _ => none, deep := fun _ => false }
theorem c_impl_WantOf : Contract Tryz.prog 101 e_impl_WantOf.sig e_impl_WantOf.F :=
  den_is (E := v_impl_WantOf) ⟨tab_ti, tab_eq⟩ (fns_cons c_impl_canStep (fns_cons c_impl_Asks (fns_nil _))) mixed Tryz.func101 (by kernel_rfl) (by kernel_rfl) (fun x => by kernel_rfl)

def s_slices_Clone_int : Sig := { params := [.val false y24], res := [.row 3 y3 false] }
noncomputable def e_slices_Clone_int : Entry := ⟨s_slices_Clone_int, fun a => D.slices_Clone_int a⟩
noncomputable def v_slices_Clone_int : Env := { ti := look tab, Γ := fns [], loop := fun _ => none, cut := fun _ => none, deep := fun _ => false }
theorem c_slices_Clone_int : Contract Tryz.prog 135 e_slices_Clone_int.sig e_slices_Clone_int.F :=
  den_is (E := v_slices_Clone_int) ⟨tab_ti, tab_eq⟩ (fns_nil _) mixed Tryz.func135 (by kernel_rfl) (by kernel_rfl) (fun x => by kernel_rfl)

def s_impl_copyResource : Sig := { params := [.val true y90], res := [.val false y3, .row 3 y3 false, .val false y3, .val false y3, .val false y3], rgroups := [some 5] }
noncomputable def e_impl_copyResource : Entry := ⟨s_impl_copyResource, fun a => D.impl_copyResource a⟩
noncomputable def v_impl_copyResource : Env := { ti := look tab, Γ := fns [(135, [], e_slices_Clone_int)], loop := fun _ => none, cut := fun _ => none, deep := fun _ => false }
theorem c_impl_copyResource : Contract Tryz.prog 112 e_impl_copyResource.sig e_impl_copyResource.F :=
  den_is (E := v_impl_copyResource) ⟨tab_ti, tab_eq⟩ (fns_cons c_slices_Clone_int (fns_nil _)) mixed Tryz.func112 (by kernel_rfl) (by kernel_rfl) (fun x => by kernel_rfl)

def s_impl_AnswerAt : Sig := { params := [.val false y34, .val true y74, .val false y3], res := [.val false y3, .row 3 y3 false, .val false y3, .val false y3, .val false y3], rgroups := [some 5] }
noncomputable def e_impl_AnswerAt : Entry := ⟨s_impl_AnswerAt, fun a => D.impl_AnswerAt a.1 a.2.1 a.2.2⟩
noncomputable def v_impl_AnswerAt : Env := { ti := look tab, Γ := fns [(112, [], e_impl_copyResource)], loop := fun b => match b with | 0 => some [.slot 7 (.int .i64), .box 6 [.int .i64, .ro 3 y3, .int .i64, .int .i64, .int .i64]] | _ => none, cut := fun _ => none, deep := fun _ => false }
theorem c_impl_AnswerAt : Contract Tryz.prog 123 e_impl_AnswerAt.sig e_impl_AnswerAt.F :=
  den_is (E := v_impl_AnswerAt) ⟨tab_ti, tab_eq⟩ (fns_cons c_impl_copyResource (fns_nil _)) mixed Tryz.func123 (by kernel_rfl) (by kernel_rfl) (fun x => by kernel_rfl)

def s_slices_Index_Address : Sig := { params := [.val false y132, .val true y74], res := [.val false y3] }
noncomputable def e_slices_Index_Address : Entry := ⟨s_slices_Index_Address, fun a => D.slices_Index_Address a.1 a.2⟩
noncomputable def v_slices_Index_Address : Env := { ti := look tab, Γ := fns [], loop := fun b => match b with | 0 => some [.slot 8 (.int .i64)] | _ => none, cut := fun _ => none, deep := fun _ => false }
theorem c_slices_Index_Address : Contract Tryz.prog 154 e_slices_Index_Address.sig e_slices_Index_Address.F :=
  den_is (E := v_slices_Index_Address) ⟨tab_ti, tab_eq⟩ (fns_nil _) mixed Tryz.func154 (by kernel_rfl) (by kernel_rfl) (fun x => by kernel_rfl)

def s_slices_Contains_Address : Sig := { params := [.val false y132, .val true y74], res := [.val false y4] }
noncomputable def e_slices_Contains_Address : Entry := ⟨s_slices_Contains_Address, fun a => D.slices_Contains_Address a.1 a.2⟩
noncomputable def v_slices_Contains_Address : Env := { ti := look tab, Γ := fns [(154, [], e_slices_Index_Address)], loop := fun _ => none, cut := fun _ => none, deep := fun _ => false }
theorem c_slices_Contains_Address : Contract Tryz.prog 124 e_slices_Contains_Address.sig e_slices_Contains_Address.F :=
  den_is (E := v_slices_Contains_Address) ⟨tab_ti, tab_eq⟩ (fns_cons c_slices_Index_Address (fns_nil _)) mixed Tryz.func124 (by kernel_rfl) (by kernel_rfl) (fun x => by kernel_rfl)

def s_impl_FollowAt : Sig := { params := [.val false y34, .val true y74, .val false y3], res := [.val false y3, .row 3 y3 false, .val false y3, .val false y3, .val false y3, .row 74 y74 false], rgroups := [some 5, none] }
noncomputable def e_impl_FollowAt : Entry := ⟨s_impl_FollowAt, fun a => D.impl_FollowAt a.1 a.2.1 a.2.2⟩
noncomputable def v_impl_FollowAt : Env := { ti := look tab, Γ := fns [(123, [], e_impl_AnswerAt), (124, [], e_slices_Contains_Address)], loop := fun b => match b with | 0 => some [.slot 9 (.own 74 y74 false), .box 8 [.int .i64, .own 3 y3 false, .int .i64, .int .i64, .int .i64]] | _ => none, cut := fun _ => none, deep := fun _ => false }
theorem c_impl_FollowAt : Contract Tryz.prog 84 e_impl_FollowAt.sig e_impl_FollowAt.F :=
  den_is (E := v_impl_FollowAt) ⟨tab_ti, tab_eq⟩ (fns_cons c_impl_AnswerAt (fns_cons c_slices_Contains_Address (fns_nil _))) mixed Tryz.func84 (by kernel_rfl) (by kernel_rfl) (fun x => by kernel_rfl)

def s_impl_hasBody : Sig := { params := [.val false y3], res := [.val false y4] }
noncomputable def e_impl_hasBody : Entry := ⟨s_impl_hasBody, fun a => D.impl_hasBody a⟩
noncomputable def v_impl_hasBody : Env := { ti := look tab, Γ := fns [], loop := fun _ => none, cut := fun _ => none, deep := fun _ => false }
theorem c_impl_hasBody : Contract Tryz.prog 160 e_impl_hasBody.sig e_impl_hasBody.F :=
  den_is (E := v_impl_hasBody) ⟨tab_ti, tab_eq⟩ (fns_nil _) mixed Tryz.func160 (by kernel_rfl) (by kernel_rfl) (fun x => by kernel_rfl)

def s_impl_ValueOfResource : Sig := { params := [.val true y90], res := [.val false y3] }
noncomputable def e_impl_ValueOfResource : Entry := ⟨s_impl_ValueOfResource, fun a => D.impl_ValueOfResource a⟩
noncomputable def v_impl_ValueOfResource : Env := { ti := look tab, Γ := fns [(98, [], e_impl_IsResource), (160, [], e_impl_hasBody)], loop := fun b => match b with | 0 => some [.slot 3 (.int .i64), .slot 18 (.int .i64)] | _ => none, cut := fun _ => none, deep := fun _ => false }
theorem c_impl_ValueOfResource : Contract Tryz.prog 134 e_impl_ValueOfResource.sig e_impl_ValueOfResource.F :=
  den_is (E := v_impl_ValueOfResource) ⟨tab_ti, tab_eq⟩ (fns_cons c_impl_IsResource (fns_cons c_impl_hasBody (fns_nil _))) mixed Tryz.func134 (by kernel_rfl) (by kernel_rfl) (fun x => by kernel_rfl)

def s_impl_Mod : Sig := { params := [.val false y3, .val false y3], res := [.val false y3] }
noncomputable def e_impl_Mod : Entry := ⟨s_impl_Mod, fun a => D.impl_Mod a.1 a.2⟩
noncomputable def v_impl_Mod : Env := { ti := look tab, Γ := fns [(54, [], e_impl_InRange)], loop := fun _ => none, cut := fun _ => none, deep := fun _ => false }
theorem c_impl_Mod : Contract Tryz.prog 110 e_impl_Mod.sig e_impl_Mod.F :=
  den_is (E := v_impl_Mod) ⟨tab_ti, tab_eq⟩ (fns_cons c_impl_InRange (fns_nil _)) mixed Tryz.func110 (by kernel_rfl) (by kernel_rfl) (fun x => by kernel_rfl)

def s_impl_Hash : Sig := { params := [.val false y24], res := [.val false y3] }
noncomputable def e_impl_Hash : Entry := ⟨s_impl_Hash, fun a => D.impl_Hash a⟩
noncomputable def v_impl_Hash : Env := { ti := look tab, Γ := fns [(110, [], e_impl_Mod)], loop := fun b => match b with | 0 => some [.slot 3 (.int .i64), .slot 8 (.int .i64)] | _ => none, cut := fun _ => none, deep := fun _ => false }
theorem c_impl_Hash : Contract Tryz.prog 62 e_impl_Hash.sig e_impl_Hash.F :=
  den_is (E := v_impl_Hash) ⟨tab_ti, tab_eq⟩ (fns_cons c_impl_Mod (fns_nil _)) mixed Tryz.func62 (by kernel_rfl) (by kernel_rfl) (fun x => by kernel_rfl)

def s_impl_LiveValue : Sig := { params := [.val true y36, .val true y156, .val false y3], res := [.val false y3] }
noncomputable def e_impl_LiveValue : Entry := ⟨s_impl_LiveValue, fun a => D.impl_LiveValue a.1 a.2.1 a.2.2⟩
noncomputable def v_impl_LiveValue : Env := { ti := look tab, Γ := fns [(26, [], e_impl_IsVisit), (54, [], e_impl_InRange), (84, [], e_impl_FollowAt), (134, [], e_impl_ValueOfResource), (62, [], e_impl_Hash), (110, [], e_impl_Mod)], loop := fun _ => none, cut := fun _ => none, deep := fun _ => false }
theorem c_impl_LiveValue : Contract Tryz.prog 102 e_impl_LiveValue.sig e_impl_LiveValue.F :=
  den_is (E := v_impl_LiveValue) ⟨tab_ti, tab_eq⟩ (fns_cons c_impl_IsVisit (fns_cons c_impl_InRange (fns_cons c_impl_FollowAt (fns_cons c_impl_ValueOfResource (fns_cons c_impl_Hash (fns_cons c_impl_Mod (fns_nil _))))))) mixed Tryz.func102 (by kernel_rfl) (by kernel_rfl) (fun x => by kernel_rfl)

def s_impl_copyState : Sig := { params := [.val true y63], res := [.val false y3, .row 3 y3 false, .row 3 y3 false, .row 3 y3 false], rgroups := [some 4] }
noncomputable def e_impl_copyState : Entry := ⟨s_impl_copyState, fun a => D.impl_copyState a⟩
noncomputable def v_impl_copyState : Env := { ti := look tab, Γ := fns [(135, [], e_slices_Clone_int)], loop := fun _ => none, cut := fun _ => none, deep := fun _ => false }
theorem c_impl_copyState : Contract Tryz.prog 104 e_impl_copyState.sig e_impl_copyState.F :=
  den_is (E := v_impl_copyState) ⟨tab_ti, tab_eq⟩ (fns_cons c_slices_Clone_int (fns_nil _)) mixed Tryz.func104 (by kernel_rfl) (by kernel_rfl) (fun x => by kernel_rfl)

def s_impl_StepState : Sig := { params := [.val false y38, .val true y63, .val false y3], res := [.val false y3, .row 3 y3 false, .row 3 y3 false, .row 3 y3 false], rgroups := [some 4] }
noncomputable def e_impl_StepState : Entry := ⟨s_impl_StepState, fun a => D.impl_StepState a.1 a.2.1 a.2.2⟩
noncomputable def v_impl_StepState : Env := { ti := look tab, Γ := fns [(104, [], e_impl_copyState), (133, [], e_impl_canStep)], loop := fun _ => none, cut := fun _ => none, deep := fun _ => false }
theorem c_impl_StepState : Contract Tryz.prog 103 e_impl_StepState.sig e_impl_StepState.F :=
  den_is (E := v_impl_StepState) ⟨tab_ti, tab_eq⟩ (fns_cons c_impl_copyState (fns_cons c_impl_canStep (fns_nil _))) mixed Tryz.func103 (by kernel_rfl) (by kernel_rfl) (fun x => by kernel_rfl)

def s_impl_visited : Sig := { params := [.val false y38, .val true y36], res := [.row 76 y76 false, .row 63 y63 false] }
noncomputable def e_impl_visited : Entry := ⟨s_impl_visited, fun a => D.impl_visited a.1 a.2⟩
noncomputable def v_impl_visited : Env := { ti := look tab, Γ := fns [(99, [], e_impl_StartState), (25, [], e_impl_IsScript), (26, [], e_impl_IsVisit), (100, [], e_impl_IsDone), (101, [], e_impl_WantOf), (102, [], e_impl_LiveValue), (103, [], e_impl_StepState)], loop := fun b => match b with | 0 => some [.slot 7 (.own 76 y76 false), .slot 8 (.own 63 y63 false), .box 6 [.int .i64, .ro 3 y3, .ro 3 y3, .ro 3 y3]] | _ => none, cut := fun _ => none, deep := fun _ => false }
theorem c_impl_visited : Contract Tryz.prog 56 e_impl_visited.sig e_impl_visited.F :=
  den_is (E := v_impl_visited) ⟨tab_ti, tab_eq⟩ (fns_cons c_impl_StartState (fns_cons c_impl_IsScript (fns_cons c_impl_IsVisit (fns_cons c_impl_IsDone (fns_cons c_impl_WantOf (fns_cons c_impl_LiveValue (fns_cons c_impl_StepState (fns_nil _)))))))) mixed Tryz.func56 (by kernel_rfl) (by kernel_rfl) (fun x => by kernel_rfl)

def s_impl_last : Sig := { params := [.val false y109], res := [.val false y3, .row 3 y3 false, .row 3 y3 false, .row 3 y3 false], rgroups := [some 4] }
noncomputable def e_impl_last : Entry := ⟨s_impl_last, fun a => D.impl_last a⟩
noncomputable def v_impl_last : Env := { ti := look tab, Γ := fns [(104, [], e_impl_copyState)], loop := fun _ => none, cut := fun _ => none, deep := fun _ => false }
theorem c_impl_last : Contract Tryz.prog 57 e_impl_last.sig e_impl_last.F :=
  den_is (E := v_impl_last) ⟨tab_ti, tab_eq⟩ (fns_cons c_impl_copyState (fns_nil _)) mixed Tryz.func57 (by kernel_rfl) (by kernel_rfl) (fun x => by kernel_rfl)

def s_impl_RecordVisit : Sig := { params := [.val false y38, .val true y36], res := [.row 76 y76 false, .val false y3, .row 3 y3 false, .row 3 y3 false, .row 3 y3 false], rgroups := [none, some 4] }
noncomputable def e_impl_RecordVisit : Entry := ⟨s_impl_RecordVisit, fun a => D.impl_RecordVisit a.1 a.2⟩
noncomputable def v_impl_RecordVisit : Env := { ti := look tab, Γ := fns [(56, [], e_impl_visited), (57, [], e_impl_last)], loop := fun _ => none, cut := fun _ => none, deep := fun _ => false }
theorem c_impl_RecordVisit : Contract Tryz.prog 27 e_impl_RecordVisit.sig e_impl_RecordVisit.F :=
  den_is (E := v_impl_RecordVisit) ⟨tab_ti, tab_eq⟩ (fns_cons c_impl_visited (fns_cons c_impl_last (fns_nil _))) mixed Tryz.func27 (by kernel_rfl) (by kernel_rfl) (fun x => by kernel_rfl)

def s_impl_CapturesOf : Sig := { params := [.val false y38, .val true y36], res := [.row 92 y92 true] }
noncomputable def e_impl_CapturesOf : Entry := ⟨s_impl_CapturesOf, fun a => D.impl_CapturesOf a.1 a.2⟩
noncomputable def v_impl_CapturesOf : Env := { ti := look tab, Γ := fns [(27, [], e_impl_RecordVisit), (84, [], e_impl_FollowAt)], loop := fun b => match b with | 0 => some [.slot 7 (.own 92 y92 true), .slot 20 (.int .i64)] | _ => none, cut := fun _ => none, deep := fun t => Nat.beq t 49 }
theorem c_impl_CapturesOf : Contract Tryz.prog 43 e_impl_CapturesOf.sig e_impl_CapturesOf.F :=
  den_is (E := v_impl_CapturesOf) ⟨tab_ti, tab_eq⟩ (fns_cons c_impl_RecordVisit (fns_cons c_impl_FollowAt (fns_nil _))) mixed Tryz.func43 (by kernel_rfl) (by kernel_rfl) (fun x => by kernel_rfl)

def s_impl_ResourceInts : Sig := { params := [.val true y90], res := [.row 3 y3 false] }
noncomputable def e_impl_ResourceInts : Entry := ⟨s_impl_ResourceInts, fun a => D.impl_ResourceInts a⟩
noncomputable def v_impl_ResourceInts : Env := { ti := look tab, Γ := fns [], loop := fun _ => none, cut := fun _ => none, deep := fun _ => false }
theorem c_impl_ResourceInts : Contract Tryz.prog 111 e_impl_ResourceInts.sig e_impl_ResourceInts.F :=
  den_is (E := v_impl_ResourceInts) ⟨tab_ti, tab_eq⟩ (fns_nil _) mixed Tryz.func111 (by kernel_rfl) (by kernel_rfl) (fun x => by kernel_rfl)

def s_impl_CaptureInts : Sig := { params := [.val true y92], res := [.row 3 y3 false] }
noncomputable def e_impl_CaptureInts : Entry := ⟨s_impl_CaptureInts, fun a => D.impl_CaptureInts a⟩
noncomputable def v_impl_CaptureInts : Env := { ti := look tab, Γ := fns [(111, [], e_impl_ResourceInts)], loop := fun _ => none, cut := fun _ => none, deep := fun _ => false }
theorem c_impl_CaptureInts : Contract Tryz.prog 63 e_impl_CaptureInts.sig e_impl_CaptureInts.F :=
  den_is (E := v_impl_CaptureInts) ⟨tab_ti, tab_eq⟩ (fns_cons c_impl_ResourceInts (fns_nil _)) mixed Tryz.func63 (by kernel_rfl) (by kernel_rfl) (fun x => by kernel_rfl)

def s_slices_Clone_Op : Sig := { params := [.val false y38], res := [.row 97 y97 false] }
noncomputable def e_slices_Clone_Op : Entry := ⟨s_slices_Clone_Op, fun a => D.slices_Clone_Op a⟩
noncomputable def v_slices_Clone_Op : Env := { ti := look tab, Γ := fns [], loop := fun _ => none, cut := fun _ => none, deep := fun _ => false }
theorem c_slices_Clone_Op : Contract Tryz.prog 64 e_slices_Clone_Op.sig e_slices_Clone_Op.F :=
  den_is (E := v_slices_Clone_Op) ⟨tab_ti, tab_eq⟩ (fns_nil _) mixed Tryz.func64 (by kernel_rfl) (by kernel_rfl) (fun x => by kernel_rfl)

def s_slices_Clone_Entry : Sig := { params := [.val false y55], res := [.row 76 y76 false] }
noncomputable def e_slices_Clone_Entry : Entry := ⟨s_slices_Clone_Entry, fun a => D.slices_Clone_Entry a⟩
noncomputable def v_slices_Clone_Entry : Env := { ti := look tab, Γ := fns [], loop := fun _ => none, cut := fun _ => none, deep := fun _ => false }
theorem c_slices_Clone_Entry : Contract Tryz.prog 65 e_slices_Clone_Entry.sig e_slices_Clone_Entry.F :=
  den_is (E := v_slices_Clone_Entry) ⟨tab_ti, tab_eq⟩ (fns_nil _) mixed Tryz.func65 (by kernel_rfl) (by kernel_rfl) (fun x => by kernel_rfl)

def s_impl_copyCaptures : Sig := { params := [.val false y32], res := [.row 92 y92 true] }
noncomputable def e_impl_copyCaptures : Entry := ⟨s_impl_copyCaptures, fun a => D.impl_copyCaptures a⟩
noncomputable def v_impl_copyCaptures : Env := { ti := look tab, Γ := fns [(112, [], e_impl_copyResource)], loop := fun b => match b with | 0 => some [.slot 3 (.own 92 y92 true), .slot 8 (.int .i64)] | _ => none, cut := fun _ => none, deep := fun t => Nat.beq t 21 }
theorem c_impl_copyCaptures : Contract Tryz.prog 66 e_impl_copyCaptures.sig e_impl_copyCaptures.F :=
  den_is (E := v_impl_copyCaptures) ⟨tab_ti, tab_eq⟩ (fns_cons c_impl_copyResource (fns_nil _)) mixed Tryz.func66 (by kernel_rfl) (by kernel_rfl) (fun x => by kernel_rfl)

def s_impl_ScriptInts : Sig := { params := [.val false y38], res := [.row 3 y3 false] }
noncomputable def e_impl_ScriptInts : Entry := ⟨s_impl_ScriptInts, fun a => D.impl_ScriptInts a⟩
noncomputable def v_impl_ScriptInts : Env := { ti := look tab, Γ := fns [], loop := fun b => match b with | 0 => some [.slot 3 (.own 3 y3 false), .slot 8 (.int .i64)] | _ => none, cut := fun _ => none, deep := fun _ => false }
theorem c_impl_ScriptInts : Contract Tryz.prog 68 e_impl_ScriptInts.sig e_impl_ScriptInts.F :=
  den_is (E := v_impl_ScriptInts) ⟨tab_ti, tab_eq⟩ (fns_nil _) mixed Tryz.func68 (by kernel_rfl) (by kernel_rfl) (fun x => by kernel_rfl)

def s_impl_RootOf : Sig := { params := [.val false y24], res := [.val false y3] }
noncomputable def e_impl_RootOf : Entry := ⟨s_impl_RootOf, fun a => D.impl_RootOf a⟩
noncomputable def v_impl_RootOf (n : Nat) : Env := { ti := look tab, Γ := fns [(67, [], ⟨s_impl_RootOf, fun a => D.impl_RootOf_f n a⟩), (62, [], e_impl_Hash)], loop := fun _ => none, cut := fun _ => none, deep := fun _ => false }
theorem cf_impl_RootOf : ∀ n : Nat, Contract Tryz.prog 67 s_impl_RootOf (fun a => D.impl_RootOf_f n a)
  | 0 => ⟨⟨_, Tryz.func67, by kernel_rfl, by kernel_rfl⟩, fun a out w S lent cx vals hF => by cases hF⟩
  | n + 1 => have ih := cf_impl_RootOf n; den_is (E := v_impl_RootOf n) ⟨tab_ti, tab_eq⟩ (fns_cons ih (fns_cons c_impl_Hash (fns_nil _))) mixed Tryz.func67 (by kernel_rfl) (by kernel_rfl) (fun x => by kernel_rfl)
theorem c_impl_RootOf : Contract Tryz.prog 67 e_impl_RootOf.sig e_impl_RootOf.F := ⟨(cf_impl_RootOf 0).1, fun a => (cf_impl_RootOf (a.length + 1)).2 a⟩

def s_impl_SealContainer : Sig := { params := [.val false y38, .val false y55, .val false y32], res := [.row 97 y97 false, .row 76 y76 false, .row 92 y92 true, .val false y3], rgroups := [some 4] }
noncomputable def e_impl_SealContainer : Entry := ⟨s_impl_SealContainer, fun a => D.impl_SealContainer a.1 a.2.1 a.2.2⟩
noncomputable def v_impl_SealContainer : Env := { ti := look tab, Γ := fns [(63, [], e_impl_CaptureInts), (62, [], e_impl_Hash), (64, [], e_slices_Clone_Op), (65, [], e_slices_Clone_Entry), (66, [], e_impl_copyCaptures), (68, [], e_impl_ScriptInts), (67, [], e_impl_RootOf)], loop := fun b => match b with | 0 => some [.slot 7 (.own 3 y3 false), .slot 15 (.int .i64)] | 2 => some [.slot 8 (.own 3 y3 false), .slot 38 (.int .i64)] | _ => none, cut := fun _ => none, deep := fun _ => false }
theorem c_impl_SealContainer : Contract Tryz.prog 31 e_impl_SealContainer.sig e_impl_SealContainer.F :=
  den_is (E := v_impl_SealContainer) ⟨tab_ti, tab_eq⟩ (fns_cons c_impl_CaptureInts (fns_cons c_impl_Hash (fns_cons c_slices_Clone_Op (fns_cons c_slices_Clone_Entry (fns_cons c_impl_copyCaptures (fns_cons c_impl_ScriptInts (fns_cons c_impl_RootOf (fns_nil _)))))))) mixed Tryz.func31 (by kernel_rfl) (by kernel_rfl) (fun x => by kernel_rfl)

def s_impl_ContainVisit : Sig := { params := [.val false y38, .val true y36], res := [.row 97 y97 false, .row 76 y76 false, .row 92 y92 true, .val false y3, .val false y4], rgroups := [some 4, none] }
noncomputable def e_impl_ContainVisit : Entry := ⟨s_impl_ContainVisit, fun a => D.impl_ContainVisit a.1 a.2⟩
noncomputable def v_impl_ContainVisit : Env := { ti := look tab, Γ := fns [(25, [], e_impl_IsScript), (26, [], e_impl_IsVisit), (27, [], e_impl_RecordVisit), (43, [], e_impl_CapturesOf), (31, [], e_impl_SealContainer)], loop := fun _ => none, cut := fun _ => none, deep := fun _ => false }
theorem c_impl_ContainVisit : Contract Tryz.prog 24 e_impl_ContainVisit.sig e_impl_ContainVisit.F :=
  den_is (E := v_impl_ContainVisit) ⟨tab_ti, tab_eq⟩ (fns_cons c_impl_IsScript (fns_cons c_impl_IsVisit (fns_cons c_impl_RecordVisit (fns_cons c_impl_CapturesOf (fns_cons c_impl_SealContainer (fns_nil _)))))) mixed Tryz.func24 (by kernel_rfl) (by kernel_rfl) (fun x => by kernel_rfl)

def s_impl_AreEntries_1 : Sig := { params := [.val true y76], res := [.val false y4] }
noncomputable def e_impl_AreEntries_1 : Entry := ⟨s_impl_AreEntries_1, fun a => D.impl_AreEntries_1 a⟩
noncomputable def v_impl_AreEntries_1 : Env := { ti := look tab, Γ := fns [(97, [], e_impl_IsAddress), (54, [], e_impl_InRange), (108, [], e_impl_Asks)], loop := fun _ => none, cut := fun _ => none, deep := fun _ => false }
theorem c_impl_AreEntries_1 : Contract Tryz.prog 107 e_impl_AreEntries_1.sig e_impl_AreEntries_1.F :=
  den_is (E := v_impl_AreEntries_1) ⟨tab_ti, tab_eq⟩ (fns_cons c_impl_IsAddress (fns_cons c_impl_InRange (fns_cons c_impl_Asks (fns_nil _)))) mixed Tryz.func107 (by kernel_rfl) (by kernel_rfl) (fun x => by kernel_rfl)

def s_slices_IndexFunc_Entry_impl_AreEntries_1 : Sig := { params := [.val false y55, .fn 107 []], res := [.val false y3] }
noncomputable def e_slices_IndexFunc_Entry_impl_AreEntries_1 : Entry := ⟨s_slices_IndexFunc_Entry_impl_AreEntries_1, fun a => D.slices_IndexFunc_Entry_impl_AreEntries_1 a.1⟩
noncomputable def v_slices_IndexFunc_Entry_impl_AreEntries_1 : Env := { ti := look tab, Γ := fns [(107, [], e_impl_AreEntries_1)], loop := fun b => match b with | 0 => some [.slot 8 (.int .i64)] | _ => none, cut := fun _ => none, deep := fun _ => false }
theorem c_slices_IndexFunc_Entry_impl_AreEntries_1 : Contract Tryz.prog 136 e_slices_IndexFunc_Entry_impl_AreEntries_1.sig e_slices_IndexFunc_Entry_impl_AreEntries_1.F :=
  den_is (E := v_slices_IndexFunc_Entry_impl_AreEntries_1) ⟨tab_ti, tab_eq⟩ (fns_cons c_impl_AreEntries_1 (fns_nil _)) mixed Tryz.func136 (by kernel_rfl) (by kernel_rfl) (fun x => by kernel_rfl)

def s_slices_ContainsFunc_Entry_impl_AreEntries_1 : Sig := { params := [.val false y55, .fn 107 []], res := [.val false y4] }
noncomputable def e_slices_ContainsFunc_Entry_impl_AreEntries_1 : Entry := ⟨s_slices_ContainsFunc_Entry_impl_AreEntries_1, fun a => D.slices_ContainsFunc_Entry_impl_AreEntries_1 a.1⟩
noncomputable def v_slices_ContainsFunc_Entry_impl_AreEntries_1 : Env := { ti := look tab, Γ := fns [(136, [107], e_slices_IndexFunc_Entry_impl_AreEntries_1)], loop := fun _ => none, cut := fun _ => none, deep := fun _ => false }
theorem c_slices_ContainsFunc_Entry_impl_AreEntries_1 : Contract Tryz.prog 106 e_slices_ContainsFunc_Entry_impl_AreEntries_1.sig e_slices_ContainsFunc_Entry_impl_AreEntries_1.F :=
  den_is (E := v_slices_ContainsFunc_Entry_impl_AreEntries_1) ⟨tab_ti, tab_eq⟩ (fns_cons c_slices_IndexFunc_Entry_impl_AreEntries_1 (fns_nil _)) mixed Tryz.func106 (by kernel_rfl) (by kernel_rfl) (fun x => by kernel_rfl)

def s_impl_AreEntries : Sig := { params := [.val false y55], res := [.val false y4] }
noncomputable def e_impl_AreEntries : Entry := ⟨s_impl_AreEntries, fun a => D.impl_AreEntries a⟩
noncomputable def v_impl_AreEntries : Env := { ti := look tab, Γ := fns [(106, [107], e_slices_ContainsFunc_Entry_impl_AreEntries_1)], loop := fun _ => none, cut := fun _ => none, deep := fun _ => false }
theorem c_impl_AreEntries : Contract Tryz.prog 59 e_impl_AreEntries.sig e_impl_AreEntries.F :=
  den_is (E := v_impl_AreEntries) ⟨tab_ti, tab_eq⟩ (fns_cons c_slices_ContainsFunc_Entry_impl_AreEntries_1 (fns_nil _)) mixed Tryz.func59 (by kernel_rfl) (by kernel_rfl) (fun x => by kernel_rfl)

def s_impl_played : Sig := { params := [.val false y38, .val false y55], res := [.val true y67, .row 63 y63 false] }
noncomputable def e_impl_played : Entry := ⟨s_impl_played, fun a => D.impl_played a.1 a.2⟩
noncomputable def v_impl_played : Env := { ti := look tab, Γ := fns [(99, [], e_impl_StartState), (25, [], e_impl_IsScript), (59, [], e_impl_AreEntries), (100, [], e_impl_IsDone), (101, [], e_impl_WantOf), (103, [], e_impl_StepState)], loop := fun b => match b with | 0 => some [.slot 7 (.own 63 y63 false), .slot 8 (.int .i64), .box 4 [.int .i64, .int .i64, .int .i64, .ro 3 y3, .ro 3 y3, .ro 3 y3], .box 6 [.int .i64, .ro 3 y3, .ro 3 y3, .ro 3 y3]] | _ => none, cut := fun _ => none, deep := fun _ => false }
theorem c_impl_played : Contract Tryz.prog 105 e_impl_played.sig e_impl_played.F :=
  den_is (E := v_impl_played) ⟨tab_ti, tab_eq⟩ (fns_cons c_impl_StartState (fns_cons c_impl_IsScript (fns_cons c_impl_AreEntries (fns_cons c_impl_IsDone (fns_cons c_impl_WantOf (fns_cons c_impl_StepState (fns_nil _))))))) mixed Tryz.func105 (by kernel_rfl) (by kernel_rfl) (fun x => by kernel_rfl)

def s_impl_Replay : Sig := { params := [.val false y38, .val false y55], res := [.val false y3, .val false y3, .val false y3, .row 3 y3 false, .row 3 y3 false, .row 3 y3 false], rgroups := [some 6] }
noncomputable def e_impl_Replay : Entry := ⟨s_impl_Replay, fun a => D.impl_Replay a.1 a.2⟩
noncomputable def v_impl_Replay : Env := { ti := look tab, Γ := fns [(105, [], e_impl_played), (104, [], e_impl_copyState)], loop := fun _ => none, cut := fun _ => none, deep := fun _ => false }
theorem c_impl_Replay : Contract Tryz.prog 58 e_impl_Replay.sig e_impl_Replay.F :=
  den_is (E := v_impl_Replay) ⟨tab_ti, tab_eq⟩ (fns_cons c_impl_played (fns_cons c_impl_copyState (fns_nil _))) mixed Tryz.func58 (by kernel_rfl) (by kernel_rfl) (fun x => by kernel_rfl)

def s_impl_PlayContainer : Sig := { params := [.val true y57], res := [.val false y3, .val false y3, .val false y3, .row 3 y3 false, .row 3 y3 false, .row 3 y3 false], rgroups := [some 6] }
noncomputable def e_impl_PlayContainer : Entry := ⟨s_impl_PlayContainer, fun a => D.impl_PlayContainer a⟩
noncomputable def v_impl_PlayContainer : Env := { ti := look tab, Γ := fns [(58, [], e_impl_Replay)], loop := fun _ => none, cut := fun _ => none, deep := fun _ => false }
theorem c_impl_PlayContainer : Contract Tryz.prog 28 e_impl_PlayContainer.sig e_impl_PlayContainer.F :=
  den_is (E := v_impl_PlayContainer) ⟨tab_ti, tab_eq⟩ (fns_cons c_impl_Replay (fns_nil _)) mixed Tryz.func28 (by kernel_rfl) (by kernel_rfl) (fun x => by kernel_rfl)

def s_impl_AreCaptures_1 : Sig := { params := [.val true y92], res := [.val false y4] }
noncomputable def e_impl_AreCaptures_1 : Entry := ⟨s_impl_AreCaptures_1, fun a => D.impl_AreCaptures_1 a⟩
noncomputable def v_impl_AreCaptures_1 : Env := { ti := look tab, Γ := fns [(97, [], e_impl_IsAddress), (54, [], e_impl_InRange), (98, [], e_impl_IsResource)], loop := fun _ => none, cut := fun _ => none, deep := fun _ => false }
theorem c_impl_AreCaptures_1 : Contract Tryz.prog 109 e_impl_AreCaptures_1.sig e_impl_AreCaptures_1.F :=
  den_is (E := v_impl_AreCaptures_1) ⟨tab_ti, tab_eq⟩ (fns_cons c_impl_IsAddress (fns_cons c_impl_InRange (fns_cons c_impl_IsResource (fns_nil _)))) mixed Tryz.func109 (by kernel_rfl) (by kernel_rfl) (fun x => by kernel_rfl)

def s_slices_IndexFunc_Capture_impl_AreCaptures_1 : Sig := { params := [.val false y32, .fn 109 []], res := [.val false y3] }
noncomputable def e_slices_IndexFunc_Capture_impl_AreCaptures_1 : Entry := ⟨s_slices_IndexFunc_Capture_impl_AreCaptures_1, fun a => D.slices_IndexFunc_Capture_impl_AreCaptures_1 a.1⟩
noncomputable def v_slices_IndexFunc_Capture_impl_AreCaptures_1 : Env := { ti := look tab, Γ := fns [(109, [], e_impl_AreCaptures_1)], loop := fun b => match b with | 0 => some [.slot 8 (.int .i64)] | _ => none, cut := fun _ => none, deep := fun _ => false }
theorem c_slices_IndexFunc_Capture_impl_AreCaptures_1 : Contract Tryz.prog 125 e_slices_IndexFunc_Capture_impl_AreCaptures_1.sig e_slices_IndexFunc_Capture_impl_AreCaptures_1.F :=
  den_is (E := v_slices_IndexFunc_Capture_impl_AreCaptures_1) ⟨tab_ti, tab_eq⟩ (fns_cons c_impl_AreCaptures_1 (fns_nil _)) mixed Tryz.func125 (by kernel_rfl) (by kernel_rfl) (fun x => by kernel_rfl)

def s_slices_ContainsFunc_Capture_impl_AreCaptures_1 : Sig := { params := [.val false y32, .fn 109 []], res := [.val false y4] }
noncomputable def e_slices_ContainsFunc_Capture_impl_AreCaptures_1 : Entry := ⟨s_slices_ContainsFunc_Capture_impl_AreCaptures_1, fun a => D.slices_ContainsFunc_Capture_impl_AreCaptures_1 a.1⟩
noncomputable def v_slices_ContainsFunc_Capture_impl_AreCaptures_1 : Env := { ti := look tab, Γ := fns [(125, [109], e_slices_IndexFunc_Capture_impl_AreCaptures_1)], loop := fun _ => none, cut := fun _ => none, deep := fun _ => false }
theorem c_slices_ContainsFunc_Capture_impl_AreCaptures_1 : Contract Tryz.prog 85 e_slices_ContainsFunc_Capture_impl_AreCaptures_1.sig e_slices_ContainsFunc_Capture_impl_AreCaptures_1.F :=
  den_is (E := v_slices_ContainsFunc_Capture_impl_AreCaptures_1) ⟨tab_ti, tab_eq⟩ (fns_cons c_slices_IndexFunc_Capture_impl_AreCaptures_1 (fns_nil _)) mixed Tryz.func85 (by kernel_rfl) (by kernel_rfl) (fun x => by kernel_rfl)

def s_impl_AreCaptures : Sig := { params := [.val false y32], res := [.val false y4] }
noncomputable def e_impl_AreCaptures : Entry := ⟨s_impl_AreCaptures, fun a => D.impl_AreCaptures a⟩
noncomputable def v_impl_AreCaptures : Env := { ti := look tab, Γ := fns [(85, [109], e_slices_ContainsFunc_Capture_impl_AreCaptures_1)], loop := fun _ => none, cut := fun _ => none, deep := fun _ => false }
theorem c_impl_AreCaptures : Contract Tryz.prog 60 e_impl_AreCaptures.sig e_impl_AreCaptures.F :=
  den_is (E := v_impl_AreCaptures) ⟨tab_ti, tab_eq⟩ (fns_cons c_slices_ContainsFunc_Capture_impl_AreCaptures_1 (fns_nil _)) mixed Tryz.func60 (by kernel_rfl) (by kernel_rfl) (fun x => by kernel_rfl)

def s_impl_IsContainer : Sig := { params := [.val true y57], res := [.val false y4] }
noncomputable def e_impl_IsContainer : Entry := ⟨s_impl_IsContainer, fun a => D.impl_IsContainer a⟩
noncomputable def v_impl_IsContainer : Env := { ti := look tab, Γ := fns [(25, [], e_impl_IsScript), (59, [], e_impl_AreEntries), (60, [], e_impl_AreCaptures), (31, [], e_impl_SealContainer)], loop := fun _ => none, cut := fun _ => none, deep := fun _ => false }
theorem c_impl_IsContainer : Contract Tryz.prog 29 e_impl_IsContainer.sig e_impl_IsContainer.F :=
  den_is (E := v_impl_IsContainer) ⟨tab_ti, tab_eq⟩ (fns_cons c_impl_IsScript (fns_cons c_impl_AreEntries (fns_cons c_impl_AreCaptures (fns_cons c_impl_SealContainer (fns_nil _))))) mixed Tryz.func29 (by kernel_rfl) (by kernel_rfl) (fun x => by kernel_rfl)

def s_slices_Equal_int : Sig := { params := [.val false y24, .val false y24], res := [.val false y4] }
noncomputable def e_slices_Equal_int : Entry := ⟨s_slices_Equal_int, fun a => D.slices_Equal_int a.1 a.2⟩
noncomputable def v_slices_Equal_int : Env := { ti := look tab, Γ := fns [], loop := fun b => match b with | 0 => some [.slot 13 (.int .i64)] | _ => none, cut := fun _ => none, deep := fun _ => false }
theorem c_slices_Equal_int : Contract Tryz.prog 61 e_slices_Equal_int.sig e_slices_Equal_int.F :=
  den_is (E := v_slices_Equal_int) ⟨tab_ti, tab_eq⟩ (fns_nil _) mixed Tryz.func61 (by kernel_rfl) (by kernel_rfl) (fun x => by kernel_rfl)

def s_impl_EqualStates : Sig := { params := [.val true y63, .val true y63], res := [.val false y4] }
noncomputable def e_impl_EqualStates : Entry := ⟨s_impl_EqualStates, fun a => D.impl_EqualStates a.1 a.2⟩
noncomputable def v_impl_EqualStates : Env := { ti := look tab, Γ := fns [(61, [], e_slices_Equal_int)], loop := fun _ => none, cut := fun _ => none, deep := fun _ => false }
theorem c_impl_EqualStates : Contract Tryz.prog 30 e_impl_EqualStates.sig e_impl_EqualStates.F :=
  den_is (E := v_impl_EqualStates) ⟨tab_ti, tab_eq⟩ (fns_cons c_slices_Equal_int (fns_nil _)) mixed Tryz.func30 (by kernel_rfl) (by kernel_rfl) (fun x => by kernel_rfl)

def s_slices_Equal_Op : Sig := { params := [.val false y38, .val false y38], res := [.val false y4] }
noncomputable def e_slices_Equal_Op : Entry := ⟨s_slices_Equal_Op, fun a => D.slices_Equal_Op a.1 a.2⟩
noncomputable def v_slices_Equal_Op : Env := { ti := look tab, Γ := fns [], loop := fun b => match b with | 0 => some [.slot 13 (.int .i64)] | _ => none, cut := fun _ => none, deep := fun _ => false }
theorem c_slices_Equal_Op : Contract Tryz.prog 69 e_slices_Equal_Op.sig e_slices_Equal_Op.F :=
  den_is (E := v_slices_Equal_Op) ⟨tab_ti, tab_eq⟩ (fns_nil _) mixed Tryz.func69 (by kernel_rfl) (by kernel_rfl) (fun x => by kernel_rfl)

def s_slices_Equal_Entry : Sig := { params := [.val false y55, .val false y55], res := [.val false y4] }
noncomputable def e_slices_Equal_Entry : Entry := ⟨s_slices_Equal_Entry, fun a => D.slices_Equal_Entry a.1 a.2⟩
noncomputable def v_slices_Equal_Entry : Env := { ti := look tab, Γ := fns [], loop := fun b => match b with | 0 => some [.slot 13 (.int .i64)] | _ => none, cut := fun _ => none, deep := fun _ => false }
theorem c_slices_Equal_Entry : Contract Tryz.prog 113 e_slices_Equal_Entry.sig e_slices_Equal_Entry.F :=
  den_is (E := v_slices_Equal_Entry) ⟨tab_ti, tab_eq⟩ (fns_nil _) mixed Tryz.func113 (by kernel_rfl) (by kernel_rfl) (fun x => by kernel_rfl)

def s_impl_EqualEntries : Sig := { params := [.val false y55, .val false y55], res := [.val false y4] }
noncomputable def e_impl_EqualEntries : Entry := ⟨s_impl_EqualEntries, fun a => D.impl_EqualEntries a.1 a.2⟩
noncomputable def v_impl_EqualEntries : Env := { ti := look tab, Γ := fns [(113, [], e_slices_Equal_Entry)], loop := fun _ => none, cut := fun _ => none, deep := fun _ => false }
theorem c_impl_EqualEntries : Contract Tryz.prog 70 e_impl_EqualEntries.sig e_impl_EqualEntries.F :=
  den_is (E := v_impl_EqualEntries) ⟨tab_ti, tab_eq⟩ (fns_cons c_slices_Equal_Entry (fns_nil _)) mixed Tryz.func70 (by kernel_rfl) (by kernel_rfl) (fun x => by kernel_rfl)

def s_impl_EqualResources : Sig := { params := [.val true y90, .val true y90], res := [.val false y4] }
noncomputable def e_impl_EqualResources : Entry := ⟨s_impl_EqualResources, fun a => D.impl_EqualResources a.1 a.2⟩
noncomputable def v_impl_EqualResources : Env := { ti := look tab, Γ := fns [(61, [], e_slices_Equal_int)], loop := fun _ => none, cut := fun _ => none, deep := fun _ => false }
theorem c_impl_EqualResources : Contract Tryz.prog 126 e_impl_EqualResources.sig e_impl_EqualResources.F :=
  den_is (E := v_impl_EqualResources) ⟨tab_ti, tab_eq⟩ (fns_cons c_slices_Equal_int (fns_nil _)) mixed Tryz.func126 (by kernel_rfl) (by kernel_rfl) (fun x => by kernel_rfl)

def s_impl_sameCapture : Sig := { params := [.val true y92, .val true y92], res := [.val false y4] }
noncomputable def e_impl_sameCapture : Entry := ⟨s_impl_sameCapture, fun a => D.impl_sameCapture a.1 a.2⟩
noncomputable def v_impl_sameCapture : Env := { ti := look tab, Γ := fns [(126, [], e_impl_EqualResources)], loop := fun _ => none, cut := fun _ => none, deep := fun _ => false }
theorem c_impl_sameCapture : Contract Tryz.prog 87 e_impl_sameCapture.sig e_impl_sameCapture.F :=
  den_is (E := v_impl_sameCapture) ⟨tab_ti, tab_eq⟩ (fns_cons c_impl_EqualResources (fns_nil _)) mixed Tryz.func87 (by kernel_rfl) (by kernel_rfl) (fun x => by kernel_rfl)

def s_slices_EqualFunc_Capture_impl_sameCapture : Sig := { params := [.val false y32, .val false y32, .fn 87 []], res := [.val false y4] }
noncomputable def e_slices_EqualFunc_Capture_impl_sameCapture : Entry := ⟨s_slices_EqualFunc_Capture_impl_sameCapture, fun a => D.slices_EqualFunc_Capture_impl_sameCapture a.1 a.2.1⟩
noncomputable def v_slices_EqualFunc_Capture_impl_sameCapture : Env := { ti := look tab, Γ := fns [(87, [], e_impl_sameCapture)], loop := fun b => match b with | 0 => some [.slot 17 (.int .i64)] | _ => none, cut := fun _ => none, deep := fun _ => false }
theorem c_slices_EqualFunc_Capture_impl_sameCapture : Contract Tryz.prog 114 e_slices_EqualFunc_Capture_impl_sameCapture.sig e_slices_EqualFunc_Capture_impl_sameCapture.F :=
  den_is (E := v_slices_EqualFunc_Capture_impl_sameCapture) ⟨tab_ti, tab_eq⟩ (fns_cons c_impl_sameCapture (fns_nil _)) mixed Tryz.func114 (by kernel_rfl) (by kernel_rfl) (fun x => by kernel_rfl)

def s_impl_EqualCaptures : Sig := { params := [.val false y32, .val false y32], res := [.val false y4] }
noncomputable def e_impl_EqualCaptures : Entry := ⟨s_impl_EqualCaptures, fun a => D.impl_EqualCaptures a.1 a.2⟩
noncomputable def v_impl_EqualCaptures : Env := { ti := look tab, Γ := fns [(114, [87], e_slices_EqualFunc_Capture_impl_sameCapture)], loop := fun _ => none, cut := fun _ => none, deep := fun _ => false }
theorem c_impl_EqualCaptures : Contract Tryz.prog 71 e_impl_EqualCaptures.sig e_impl_EqualCaptures.F :=
  den_is (E := v_impl_EqualCaptures) ⟨tab_ti, tab_eq⟩ (fns_cons c_slices_EqualFunc_Capture_impl_sameCapture (fns_nil _)) mixed Tryz.func71 (by kernel_rfl) (by kernel_rfl) (fun x => by kernel_rfl)

def s_impl_EqualContainers : Sig := { params := [.val true y57, .val true y57], res := [.val false y4] }
noncomputable def e_impl_EqualContainers : Entry := ⟨s_impl_EqualContainers, fun a => D.impl_EqualContainers a.1 a.2⟩
noncomputable def v_impl_EqualContainers : Env := { ti := look tab, Γ := fns [(69, [], e_slices_Equal_Op), (70, [], e_impl_EqualEntries), (71, [], e_impl_EqualCaptures)], loop := fun _ => none, cut := fun _ => none, deep := fun _ => false }
theorem c_impl_EqualContainers : Contract Tryz.prog 32 e_impl_EqualContainers.sig e_impl_EqualContainers.F :=
  den_is (E := v_impl_EqualContainers) ⟨tab_ti, tab_eq⟩ (fns_cons c_slices_Equal_Op (fns_cons c_impl_EqualEntries (fns_cons c_impl_EqualCaptures (fns_nil _)))) mixed Tryz.func32 (by kernel_rfl) (by kernel_rfl) (fun x => by kernel_rfl)

def s_spec_l1In : Sig := { params := [.val false y3, .val false y3, .val false y3], res := [.val false y4] }
noncomputable def e_spec_l1In : Entry := ⟨s_spec_l1In, fun a => D.spec_l1In a.1 a.2.1 a.2.2⟩
noncomputable def v_spec_l1In : Env := { ti := look tab, Γ := fns [], loop := fun _ => none, cut := fun _ => none, deep := fun _ => false }
theorem c_spec_l1In : Contract Tryz.prog 166 e_spec_l1In.sig e_spec_l1In.F :=
  den_is (E := v_spec_l1In) ⟨tab_ti, tab_eq⟩ (fns_nil _) mixed Tryz.func166 (by kernel_rfl) (by kernel_rfl) (fun x => by kernel_rfl)

def s_spec_l10Ok : Sig := { params := [.val true y97], res := [.val false y4] }
noncomputable def e_spec_l10Ok : Entry := ⟨s_spec_l10Ok, fun a => D.spec_l10Ok a⟩
noncomputable def v_spec_l10Ok : Env := { ti := look tab, Γ := fns [(166, [], e_spec_l1In)], loop := fun _ => none, cut := fun _ => none, deep := fun _ => false }
theorem c_spec_l10Ok : Contract Tryz.prog 164 e_spec_l10Ok.sig e_spec_l10Ok.F :=
  den_is (E := v_spec_l10Ok) ⟨tab_ti, tab_eq⟩ (fns_cons c_spec_l1In (fns_nil _)) mixed Tryz.func164 (by kernel_rfl) (by kernel_rfl) (fun x => by kernel_rfl)

def s_spec_IsScript : Sig := { params := [.val false y38], res := [.val false y4] }
noncomputable def e_spec_IsScript : Entry := ⟨s_spec_IsScript, fun a => D.spec_IsScript a⟩
noncomputable def v_spec_IsScript : Env := { ti := look tab, Γ := fns [(164, [], e_spec_l10Ok)], loop := fun b => match b with | 0 => some [.slot 3 (.int .i64)] | _ => none, cut := fun _ => none, deep := fun _ => false }
theorem c_spec_IsScript : Contract Tryz.prog 146 e_spec_IsScript.sig e_spec_IsScript.F :=
  den_is (E := v_spec_IsScript) ⟨tab_ti, tab_eq⟩ (fns_cons c_spec_l10Ok (fns_nil _)) mixed Tryz.func146 (by kernel_rfl) (by kernel_rfl) (fun x => by kernel_rfl)

def s_spec_IsAddress : Sig := { params := [.val true y74], res := [.val false y4] }
noncomputable def e_spec_IsAddress : Entry := ⟨s_spec_IsAddress, fun a => D.spec_IsAddress a⟩
noncomputable def v_spec_IsAddress : Env := { ti := look tab, Γ := fns [(166, [], e_spec_l1In)], loop := fun _ => none, cut := fun _ => none, deep := fun _ => false }
theorem c_spec_IsAddress : Contract Tryz.prog 176 e_spec_IsAddress.sig e_spec_IsAddress.F :=
  den_is (E := v_spec_IsAddress) ⟨tab_ti, tab_eq⟩ (fns_cons c_spec_l1In (fns_nil _)) mixed Tryz.func176 (by kernel_rfl) (by kernel_rfl) (fun x => by kernel_rfl)

def s_spec_l5Bytes : Sig := { params := [.val false y24], res := [.val false y4] }
noncomputable def e_spec_l5Bytes : Entry := ⟨s_spec_l5Bytes, fun a => D.spec_l5Bytes a⟩
noncomputable def v_spec_l5Bytes : Env := { ti := look tab, Γ := fns [(166, [], e_spec_l1In)], loop := fun b => match b with | 0 => some [.slot 3 (.int .i64)] | _ => none, cut := fun _ => none, deep := fun _ => false }
theorem c_spec_l5Bytes : Contract Tryz.prog 180 e_spec_l5Bytes.sig e_spec_l5Bytes.F :=
  den_is (E := v_spec_l5Bytes) ⟨tab_ti, tab_eq⟩ (fns_cons c_spec_l1In (fns_nil _)) mixed Tryz.func180 (by kernel_rfl) (by kernel_rfl) (fun x => by kernel_rfl)

def s_spec_IsResource : Sig := { params := [.val true y90], res := [.val false y4] }
noncomputable def e_spec_IsResource : Entry := ⟨s_spec_IsResource, fun a => D.spec_IsResource a⟩
noncomputable def v_spec_IsResource : Env := { ti := look tab, Γ := fns [(166, [], e_spec_l1In), (180, [], e_spec_l5Bytes), (176, [], e_spec_IsAddress)], loop := fun _ => none, cut := fun _ => none, deep := fun _ => false }
theorem c_spec_IsResource : Contract Tryz.prog 177 e_spec_IsResource.sig e_spec_IsResource.F :=
  den_is (E := v_spec_IsResource) ⟨tab_ti, tab_eq⟩ (fns_cons c_spec_l1In (fns_cons c_spec_l5Bytes (fns_cons c_spec_IsAddress (fns_nil _)))) mixed Tryz.func177 (by kernel_rfl) (by kernel_rfl) (fun x => by kernel_rfl)

def s_spec_IsSite : Sig := { params := [.val false y34], res := [.val false y4] }
noncomputable def e_spec_IsSite : Entry := ⟨s_spec_IsSite, fun a => D.spec_IsSite a⟩
noncomputable def v_spec_IsSite : Env := { ti := look tab, Γ := fns [(176, [], e_spec_IsAddress), (166, [], e_spec_l1In), (177, [], e_spec_IsResource)], loop := fun b => match b with | 0 => some [.slot 3 (.int .i64)] | _ => none, cut := fun _ => none, deep := fun _ => false }
theorem c_spec_IsSite : Contract Tryz.prog 165 e_spec_IsSite.sig e_spec_IsSite.F :=
  den_is (E := v_spec_IsSite) ⟨tab_ti, tab_eq⟩ (fns_cons c_spec_IsAddress (fns_cons c_spec_l1In (fns_cons c_spec_IsResource (fns_nil _)))) mixed Tryz.func165 (by kernel_rfl) (by kernel_rfl) (fun x => by kernel_rfl)

def s_spec_l11All : Sig := { params := [.val false y24, .val false y3], res := [.val false y4] }
noncomputable def e_spec_l11All : Entry := ⟨s_spec_l11All, fun a => D.spec_l11All a.1 a.2⟩
noncomputable def v_spec_l11All : Env := { ti := look tab, Γ := fns [(166, [], e_spec_l1In)], loop := fun b => match b with | 0 => some [.slot 5 (.int .i64)] | _ => none, cut := fun _ => none, deep := fun _ => false }
theorem c_spec_l11All : Contract Tryz.prog 167 e_spec_l11All.sig e_spec_l11All.F :=
  den_is (E := v_spec_l11All) ⟨tab_ti, tab_eq⟩ (fns_cons c_spec_l1In (fns_nil _)) mixed Tryz.func167 (by kernel_rfl) (by kernel_rfl) (fun x => by kernel_rfl)

def s_spec_IsVisit : Sig := { params := [.val true y36], res := [.val false y4] }
noncomputable def e_spec_IsVisit : Entry := ⟨s_spec_IsVisit, fun a => D.spec_IsVisit a⟩
noncomputable def v_spec_IsVisit : Env := { ti := look tab, Γ := fns [(165, [], e_spec_IsSite), (166, [], e_spec_l1In), (167, [], e_spec_l11All)], loop := fun _ => none, cut := fun _ => none, deep := fun _ => false }
theorem c_spec_IsVisit : Contract Tryz.prog 147 e_spec_IsVisit.sig e_spec_IsVisit.F :=
  den_is (E := v_spec_IsVisit) ⟨tab_ti, tab_eq⟩ (fns_cons c_spec_IsSite (fns_cons c_spec_l1In (fns_cons c_spec_l11All (fns_nil _)))) mixed Tryz.func147 (by kernel_rfl) (by kernel_rfl) (fun x => by kernel_rfl)

def s_spec_l11Zeros : Sig := { params := [.val false y3], res := [.row 3 y3 false] }
noncomputable def e_spec_l11Zeros : Entry := ⟨s_spec_l11Zeros, fun a => D.spec_l11Zeros a⟩
noncomputable def v_spec_l11Zeros : Env := { ti := look tab, Γ := fns [], loop := fun b => match b with | 0 => some [.slot 3 (.own 3 y3 false), .slot 4 (.int .i64)] | _ => none, cut := fun _ => none, deep := fun _ => false }
theorem c_spec_l11Zeros : Contract Tryz.prog 163 e_spec_l11Zeros.sig e_spec_l11Zeros.F :=
  den_is (E := v_spec_l11Zeros) ⟨tab_ti, tab_eq⟩ (fns_nil _) mixed Tryz.func163 (by kernel_rfl) (by kernel_rfl) (fun x => by kernel_rfl)

def s_spec_StartState : Sig := { params := [], res := [.val false y3, .row 3 y3 false, .row 3 y3 false, .row 3 y3 false], rgroups := [some 4] }
noncomputable def e_spec_StartState : Entry := ⟨s_spec_StartState, fun _ => D.spec_StartState⟩
noncomputable def v_spec_StartState : Env := { ti := look tab, Γ := fns [(163, [], e_spec_l11Zeros)], loop := fun _ => none, cut := fun _ => none, deep := fun _ => false }
theorem c_spec_StartState : Contract Tryz.prog 145 e_spec_StartState.sig e_spec_StartState.F :=
  den_is (E := v_spec_StartState) ⟨tab_ti, tab_eq⟩ (fns_cons c_spec_l11Zeros (fns_nil _)) mixed Tryz.func145 (by kernel_rfl) (by kernel_rfl) (fun x => by kernel_rfl)

def s_spec_IsDone : Sig := { params := [.val false y38, .val true y63], res := [.val false y4] }
noncomputable def e_spec_IsDone : Entry := ⟨s_spec_IsDone, fun a => D.spec_IsDone a.1 a.2⟩
noncomputable def v_spec_IsDone : Env := { ti := look tab, Γ := fns [], loop := fun _ => none, cut := fun _ => none, deep := fun _ => false }
theorem c_spec_IsDone : Contract Tryz.prog 148 e_spec_IsDone.sig e_spec_IsDone.F :=
  den_is (E := v_spec_IsDone) ⟨tab_ti, tab_eq⟩ (fns_nil _) mixed Tryz.func148 (by kernel_rfl) (by kernel_rfl) (fun x => by kernel_rfl)

def s_spec_IsState : Sig := { params := [.val true y63], res := [.val false y4] }
noncomputable def e_spec_IsState : Entry := ⟨s_spec_IsState, fun a => D.spec_IsState a⟩
noncomputable def v_spec_IsState : Env := { ti := look tab, Γ := fns [(166, [], e_spec_l1In), (167, [], e_spec_l11All)], loop := fun _ => none, cut := fun _ => none, deep := fun _ => false }
theorem c_spec_IsState : Contract Tryz.prog 178 e_spec_IsState.sig e_spec_IsState.F :=
  den_is (E := v_spec_IsState) ⟨tab_ti, tab_eq⟩ (fns_cons c_spec_l1In (fns_cons c_spec_l11All (fns_nil _))) mixed Tryz.func178 (by kernel_rfl) (by kernel_rfl) (fun x => by kernel_rfl)

def s_spec_l11Can : Sig := { params := [.val false y38, .val true y63], res := [.val false y4] }
noncomputable def e_spec_l11Can : Entry := ⟨s_spec_l11Can, fun a => D.spec_l11Can a.1 a.2⟩
noncomputable def v_spec_l11Can : Env := { ti := look tab, Γ := fns [(146, [], e_spec_IsScript), (178, [], e_spec_IsState)], loop := fun _ => none, cut := fun _ => none, deep := fun _ => false }
theorem c_spec_l11Can : Contract Tryz.prog 168 e_spec_l11Can.sig e_spec_l11Can.F :=
  den_is (E := v_spec_l11Can) ⟨tab_ti, tab_eq⟩ (fns_cons c_spec_IsScript (fns_cons c_spec_IsState (fns_nil _))) mixed Tryz.func168 (by kernel_rfl) (by kernel_rfl) (fun x => by kernel_rfl)

def s_spec_Asks : Sig := { params := [.val false y3], res := [.val false y4] }
noncomputable def e_spec_Asks : Entry := ⟨s_spec_Asks, fun a => D.spec_Asks a⟩
noncomputable def v_spec_Asks : Env := { ti := look tab, Γ := fns [(166, [], e_spec_l1In)], loop := fun _ => none, cut := fun _ => none, deep := fun _ => false }
theorem c_spec_Asks : Contract Tryz.prog 169 e_spec_Asks.sig e_spec_Asks.F :=
  den_is (E := v_spec_Asks) ⟨tab_ti, tab_eq⟩ (fns_cons c_spec_l1In (fns_nil _)) mixed Tryz.func169 (by kernel_rfl) (by kernel_rfl) (fun x => by kernel_rfl)

def s_spec_WantOf : Sig := { params := [.val false y38, .val true y63], res := [.val true y156] }
noncomputable def e_spec_WantOf : Entry := ⟨s_spec_WantOf, fun a => D.spec_WantOf a.1 a.2⟩
noncomputable def v_spec_WantOf : Env := { ti := look tab, Γ := fns [(168, [], e_spec_l11Can), (169, [], e_spec_Asks)], loop := fun _ => none, cut := fun _ => none, deep := fun _ => false }
theorem c_spec_WantOf : Contract Tryz.prog 149 e_spec_WantOf.sig e_spec_WantOf.F :=
  den_is (E := v_spec_WantOf) ⟨tab_ti, tab_eq⟩ (fns_cons c_spec_l11Can (fns_cons c_spec_Asks (fns_nil _))) mixed Tryz.func149 (by kernel_rfl) (by kernel_rfl) (fun x => by kernel_rfl)

def s_spec_l5Copy : Sig := { params := [.val true y90], res := [.val false y3, .row 3 y3 false, .val false y3, .val false y3, .val false y3], rgroups := [some 5] }
noncomputable def e_spec_l5Copy : Entry := ⟨s_spec_l5Copy, fun a => D.spec_l5Copy a⟩
noncomputable def v_spec_l5Copy : Env := { ti := look tab, Γ := fns [], loop := fun _ => none, cut := fun _ => none, deep := fun _ => false }
theorem c_spec_l5Copy : Contract Tryz.prog 152 e_spec_l5Copy.sig e_spec_l5Copy.F :=
  den_is (E := v_spec_l5Copy) ⟨tab_ti, tab_eq⟩ (fns_nil _) mixed Tryz.func152 (by kernel_rfl) (by kernel_rfl) (fun x => by kernel_rfl)

def s_spec_AnswerAt : Sig := { params := [.val false y34, .val true y74, .val false y3], res := [.val false y3, .row 3 y3 false, .val false y3, .val false y3, .val false y3], rgroups := [some 5] }
noncomputable def e_spec_AnswerAt : Entry := ⟨s_spec_AnswerAt, fun a => D.spec_AnswerAt a.1 a.2.1 a.2.2⟩
noncomputable def v_spec_AnswerAt : Env := { ti := look tab, Γ := fns [(152, [], e_spec_l5Copy)], loop := fun b => match b with | 0 => some [.slot 8 (.int .i64), .box 7 [.int .i64, .own 3 y3 false, .int .i64, .int .i64, .int .i64]] | _ => none, cut := fun _ => none, deep := fun _ => false }
theorem c_spec_AnswerAt : Contract Tryz.prog 120 e_spec_AnswerAt.sig e_spec_AnswerAt.F :=
  den_is (E := v_spec_AnswerAt) ⟨tab_ti, tab_eq⟩ (fns_cons c_spec_l5Copy (fns_nil _)) mixed Tryz.func120 (by kernel_rfl) (by kernel_rfl) (fun x => by kernel_rfl)

def s_spec_l9Has : Sig := { params := [.val false y132, .val true y74], res := [.val false y4] }
noncomputable def e_spec_l9Has : Entry := ⟨s_spec_l9Has, fun a => D.spec_l9Has a.1 a.2⟩
noncomputable def v_spec_l9Has : Env := { ti := look tab, Γ := fns [], loop := fun b => match b with | 0 => some [.slot 5 (.int .i64)] | _ => none, cut := fun _ => none, deep := fun _ => false }
theorem c_spec_l9Has : Contract Tryz.prog 121 e_spec_l9Has.sig e_spec_l9Has.F :=
  den_is (E := v_spec_l9Has) ⟨tab_ti, tab_eq⟩ (fns_nil _) mixed Tryz.func121 (by kernel_rfl) (by kernel_rfl) (fun x => by kernel_rfl)

def s_spec_FollowAt : Sig := { params := [.val false y34, .val true y74, .val false y3], res := [.val false y3, .row 3 y3 false, .val false y3, .val false y3, .val false y3, .row 74 y74 false], rgroups := [some 5, none] }
noncomputable def e_spec_FollowAt : Entry := ⟨s_spec_FollowAt, fun a => D.spec_FollowAt a.1 a.2.1 a.2.2⟩
noncomputable def v_spec_FollowAt : Env := { ti := look tab, Γ := fns [(120, [], e_spec_AnswerAt), (121, [], e_spec_l9Has)], loop := fun b => match b with | 0 => some [.slot 8 (.own 74 y74 false), .box 9 [.int .i64, .own 3 y3 false, .int .i64, .int .i64, .int .i64]] | _ => none, cut := fun _ => none, deep := fun _ => false }
theorem c_spec_FollowAt : Contract Tryz.prog 79 e_spec_FollowAt.sig e_spec_FollowAt.F :=
  den_is (E := v_spec_FollowAt) ⟨tab_ti, tab_eq⟩ (fns_cons c_spec_AnswerAt (fns_cons c_spec_l9Has (fns_nil _))) mixed Tryz.func79 (by kernel_rfl) (by kernel_rfl) (fun x => by kernel_rfl)

def s_spec_Min : Sig := { params := [.val false y3, .val false y3], res := [.val false y3] }
noncomputable def e_spec_Min : Entry := ⟨s_spec_Min, fun a => D.spec_Min a.1 a.2⟩
noncomputable def v_spec_Min : Env := { ti := look tab, Γ := fns [], loop := fun _ => none, cut := fun _ => none, deep := fun _ => false }
theorem c_spec_Min : Contract Tryz.prog 171 e_spec_Min.sig e_spec_Min.F :=
  den_is (E := v_spec_Min) ⟨tab_ti, tab_eq⟩ (fns_nil _) mixed Tryz.func171 (by kernel_rfl) (by kernel_rfl) (fun x => by kernel_rfl)

def s_spec_ValueOfResource : Sig := { params := [.val true y90], res := [.val false y3] }
noncomputable def e_spec_ValueOfResource : Entry := ⟨s_spec_ValueOfResource, fun a => D.spec_ValueOfResource a⟩
noncomputable def v_spec_ValueOfResource : Env := { ti := look tab, Γ := fns [(177, [], e_spec_IsResource), (171, [], e_spec_Min)], loop := fun b => match b with | 0 => some [.slot 3 (.int .i64), .slot 4 (.int .i64)] | _ => none, cut := fun _ => none, deep := fun _ => false }
theorem c_spec_ValueOfResource : Contract Tryz.prog 170 e_spec_ValueOfResource.sig e_spec_ValueOfResource.F :=
  den_is (E := v_spec_ValueOfResource) ⟨tab_ti, tab_eq⟩ (fns_cons c_spec_IsResource (fns_cons c_spec_Min (fns_nil _))) mixed Tryz.func170 (by kernel_rfl) (by kernel_rfl) (fun x => by kernel_rfl)

def s_spec_Mod : Sig := { params := [.val false y3, .val false y3], res := [.val false y3] }
noncomputable def e_spec_Mod : Entry := ⟨s_spec_Mod, fun a => D.spec_Mod a.1 a.2⟩
noncomputable def v_spec_Mod : Env := { ti := look tab, Γ := fns [(166, [], e_spec_l1In)], loop := fun _ => none, cut := fun _ => none, deep := fun _ => false }
theorem c_spec_Mod : Contract Tryz.prog 161 e_spec_Mod.sig e_spec_Mod.F :=
  den_is (E := v_spec_Mod) ⟨tab_ti, tab_eq⟩ (fns_cons c_spec_l1In (fns_nil _)) mixed Tryz.func161 (by kernel_rfl) (by kernel_rfl) (fun x => by kernel_rfl)

def s_spec_Hash : Sig := { params := [.val false y24], res := [.val false y3] }
noncomputable def e_spec_Hash : Entry := ⟨s_spec_Hash, fun a => D.spec_Hash a⟩
noncomputable def v_spec_Hash : Env := { ti := look tab, Γ := fns [(161, [], e_spec_Mod)], loop := fun b => match b with | 0 => some [.slot 3 (.int .i64), .slot 4 (.int .i64)] | _ => none, cut := fun _ => none, deep := fun _ => false }
theorem c_spec_Hash : Contract Tryz.prog 141 e_spec_Hash.sig e_spec_Hash.F :=
  den_is (E := v_spec_Hash) ⟨tab_ti, tab_eq⟩ (fns_cons c_spec_Mod (fns_nil _)) mixed Tryz.func141 (by kernel_rfl) (by kernel_rfl) (fun x => by kernel_rfl)

def s_spec_LiveValue : Sig := { params := [.val true y36, .val true y156, .val false y3], res := [.val false y3] }
noncomputable def e_spec_LiveValue : Entry := ⟨s_spec_LiveValue, fun a => D.spec_LiveValue a.1 a.2.1 a.2.2⟩
noncomputable def v_spec_LiveValue : Env := { ti := look tab, Γ := fns [(147, [], e_spec_IsVisit), (166, [], e_spec_l1In), (79, [], e_spec_FollowAt), (170, [], e_spec_ValueOfResource), (171, [], e_spec_Min), (141, [], e_spec_Hash), (161, [], e_spec_Mod)], loop := fun _ => none, cut := fun _ => none, deep := fun _ => false }
theorem c_spec_LiveValue : Contract Tryz.prog 150 e_spec_LiveValue.sig e_spec_LiveValue.F :=
  den_is (E := v_spec_LiveValue) ⟨tab_ti, tab_eq⟩ (fns_cons c_spec_IsVisit (fns_cons c_spec_l1In (fns_cons c_spec_FollowAt (fns_cons c_spec_ValueOfResource (fns_cons c_spec_Min (fns_cons c_spec_Hash (fns_cons c_spec_Mod (fns_nil _)))))))) mixed Tryz.func150 (by kernel_rfl) (by kernel_rfl) (fun x => by kernel_rfl)

def s_spec_l11Copy : Sig := { params := [.val true y63], res := [.val false y3, .row 3 y3 false, .row 3 y3 false, .row 3 y3 false], rgroups := [some 4] }
noncomputable def e_spec_l11Copy : Entry := ⟨s_spec_l11Copy, fun a => D.spec_l11Copy a⟩
noncomputable def v_spec_l11Copy : Env := { ti := look tab, Γ := fns [], loop := fun _ => none, cut := fun _ => none, deep := fun _ => false }
theorem c_spec_l11Copy : Contract Tryz.prog 119 e_spec_l11Copy.sig e_spec_l11Copy.F :=
  den_is (E := v_spec_l11Copy) ⟨tab_ti, tab_eq⟩ (fns_nil _) mixed Tryz.func119 (by kernel_rfl) (by kernel_rfl) (fun x => by kernel_rfl)

def s_spec_Max : Sig := { params := [.val false y3, .val false y3], res := [.val false y3] }
noncomputable def e_spec_Max : Entry := ⟨s_spec_Max, fun a => D.spec_Max a.1 a.2⟩
noncomputable def v_spec_Max : Env := { ti := look tab, Γ := fns [], loop := fun _ => none, cut := fun _ => none, deep := fun _ => false }
theorem c_spec_Max : Contract Tryz.prog 172 e_spec_Max.sig e_spec_Max.F :=
  den_is (E := v_spec_Max) ⟨tab_ti, tab_eq⟩ (fns_nil _) mixed Tryz.func172 (by kernel_rfl) (by kernel_rfl) (fun x => by kernel_rfl)

def s_spec_StepState : Sig := { params := [.val false y38, .val true y63, .val false y3], res := [.val false y3, .row 3 y3 false, .row 3 y3 false, .row 3 y3 false], rgroups := [some 4] }
noncomputable def e_spec_StepState : Entry := ⟨s_spec_StepState, fun a => D.spec_StepState a.1 a.2.1 a.2.2⟩
noncomputable def v_spec_StepState : Env := { ti := look tab, Γ := fns [(119, [], e_spec_l11Copy), (168, [], e_spec_l11Can), (171, [], e_spec_Min), (172, [], e_spec_Max)], loop := fun _ => none, cut := fun _ => none, deep := fun _ => false }
theorem c_spec_StepState : Contract Tryz.prog 151 e_spec_StepState.sig e_spec_StepState.F :=
  den_is (E := v_spec_StepState) ⟨tab_ti, tab_eq⟩ (fns_cons c_spec_l11Copy (fns_cons c_spec_l11Can (fns_cons c_spec_Min (fns_cons c_spec_Max (fns_nil _))))) mixed Tryz.func151 (by kernel_rfl) (by kernel_rfl) (fun x => by kernel_rfl)

def s_spec_l13Run : Sig := { params := [.val false y38, .val true y36], res := [.row 76 y76 false, .row 63 y63 false] }
noncomputable def e_spec_l13Run : Entry := ⟨s_spec_l13Run, fun a => D.spec_l13Run a.1 a.2⟩
noncomputable def v_spec_l13Run : Env := { ti := look tab, Γ := fns [(145, [], e_spec_StartState), (146, [], e_spec_IsScript), (147, [], e_spec_IsVisit), (148, [], e_spec_IsDone), (149, [], e_spec_WantOf), (150, [], e_spec_LiveValue), (151, [], e_spec_StepState)], loop := fun b => match b with | 0 => some [.slot 6 (.own 76 y76 false), .slot 8 (.own 63 y63 false), .box 7 [.int .i64, .ro 3 y3, .ro 3 y3, .ro 3 y3]] | _ => none, cut := fun _ => none, deep := fun _ => false }
theorem c_spec_l13Run : Contract Tryz.prog 118 e_spec_l13Run.sig e_spec_l13Run.F :=
  den_is (E := v_spec_l13Run) ⟨tab_ti, tab_eq⟩ (fns_cons c_spec_StartState (fns_cons c_spec_IsScript (fns_cons c_spec_IsVisit (fns_cons c_spec_IsDone (fns_cons c_spec_WantOf (fns_cons c_spec_LiveValue (fns_cons c_spec_StepState (fns_nil _)))))))) mixed Tryz.func118 (by kernel_rfl) (by kernel_rfl) (fun x => by kernel_rfl)

def s_spec_RecordVisit : Sig := { params := [.val false y38, .val true y36], res := [.row 76 y76 false, .val false y3, .row 3 y3 false, .row 3 y3 false, .row 3 y3 false], rgroups := [none, some 4] }
noncomputable def e_spec_RecordVisit : Entry := ⟨s_spec_RecordVisit, fun a => D.spec_RecordVisit a.1 a.2⟩
noncomputable def v_spec_RecordVisit : Env := { ti := look tab, Γ := fns [(118, [], e_spec_l13Run), (119, [], e_spec_l11Copy)], loop := fun _ => none, cut := fun _ => none, deep := fun _ => false }
theorem c_spec_RecordVisit : Contract Tryz.prog 78 e_spec_RecordVisit.sig e_spec_RecordVisit.F :=
  den_is (E := v_spec_RecordVisit) ⟨tab_ti, tab_eq⟩ (fns_cons c_spec_l13Run (fns_cons c_spec_l11Copy (fns_nil _))) mixed Tryz.func78 (by kernel_rfl) (by kernel_rfl) (fun x => by kernel_rfl)

def s_spec_CapturesOf : Sig := { params := [.val false y38, .val true y36], res := [.row 92 y92 true] }
noncomputable def e_spec_CapturesOf : Entry := ⟨s_spec_CapturesOf, fun a => D.spec_CapturesOf a.1 a.2⟩
noncomputable def v_spec_CapturesOf : Env := { ti := look tab, Γ := fns [(78, [], e_spec_RecordVisit), (79, [], e_spec_FollowAt)], loop := fun b => match b with | 0 => some [.slot 5 (.own 92 y92 true), .slot 8 (.int .i64)] | _ => none, cut := fun _ => none, deep := fun t => Nat.beq t 11 || Nat.beq t 57 }
theorem c_spec_CapturesOf : Contract Tryz.prog 37 e_spec_CapturesOf.sig e_spec_CapturesOf.F :=
  den_is (E := v_spec_CapturesOf) ⟨tab_ti, tab_eq⟩ (fns_cons c_spec_RecordVisit (fns_cons c_spec_FollowAt (fns_nil _))) mixed Tryz.func37 (by kernel_rfl) (by kernel_rfl) (fun x => by kernel_rfl)

def s_spec_l15Copy : Sig := { params := [.val false y32], res := [.row 92 y92 true] }
noncomputable def e_spec_l15Copy : Entry := ⟨s_spec_l15Copy, fun a => D.spec_l15Copy a⟩
noncomputable def v_spec_l15Copy : Env := { ti := look tab, Γ := fns [(152, [], e_spec_l5Copy)], loop := fun b => match b with | 0 => some [.slot 3 (.own 92 y92 true), .slot 4 (.int .i64)] | _ => none, cut := fun _ => none, deep := fun t => Nat.beq t 5 || Nat.beq t 30 }
theorem c_spec_l15Copy : Contract Tryz.prog 139 e_spec_l15Copy.sig e_spec_l15Copy.F :=
  den_is (E := v_spec_l15Copy) ⟨tab_ti, tab_eq⟩ (fns_cons c_spec_l5Copy (fns_nil _)) mixed Tryz.func139 (by kernel_rfl) (by kernel_rfl) (fun x => by kernel_rfl)

def s_spec_ScriptInts : Sig := { params := [.val false y38], res := [.row 3 y3 false] }
noncomputable def e_spec_ScriptInts : Entry := ⟨s_spec_ScriptInts, fun a => D.spec_ScriptInts a⟩
noncomputable def v_spec_ScriptInts : Env := { ti := look tab, Γ := fns [], loop := fun b => match b with | 0 => some [.slot 3 (.own 3 y3 false), .slot 4 (.int .i64)] | _ => none, cut := fun _ => none, deep := fun _ => false }
theorem c_spec_ScriptInts : Contract Tryz.prog 142 e_spec_ScriptInts.sig e_spec_ScriptInts.F :=
  den_is (E := v_spec_ScriptInts) ⟨tab_ti, tab_eq⟩ (fns_nil _) mixed Tryz.func142 (by kernel_rfl) (by kernel_rfl) (fun x => by kernel_rfl)

def s_spec_l30Entries : Sig := { params := [.val false y55], res := [.row 3 y3 false] }
noncomputable def e_spec_l30Entries : Entry := ⟨s_spec_l30Entries, fun a => D.spec_l30Entries a⟩
noncomputable def v_spec_l30Entries : Env := { ti := look tab, Γ := fns [], loop := fun b => match b with | 0 => some [.slot 3 (.own 3 y3 false), .slot 4 (.int .i64)] | _ => none, cut := fun _ => none, deep := fun _ => false }
theorem c_spec_l30Entries : Contract Tryz.prog 143 e_spec_l30Entries.sig e_spec_l30Entries.F :=
  den_is (E := v_spec_l30Entries) ⟨tab_ti, tab_eq⟩ (fns_nil _) mixed Tryz.func143 (by kernel_rfl) (by kernel_rfl) (fun x => by kernel_rfl)

def s_spec_ResourceInts : Sig := { params := [.val true y90], res := [.row 3 y3 false] }
noncomputable def e_spec_ResourceInts : Entry := ⟨s_spec_ResourceInts, fun a => D.spec_ResourceInts a⟩
noncomputable def v_spec_ResourceInts : Env := { ti := look tab, Γ := fns [], loop := fun _ => none, cut := fun _ => none, deep := fun _ => false }
theorem c_spec_ResourceInts : Contract Tryz.prog 175 e_spec_ResourceInts.sig e_spec_ResourceInts.F :=
  den_is (E := v_spec_ResourceInts) ⟨tab_ti, tab_eq⟩ (fns_nil _) mixed Tryz.func175 (by kernel_rfl) (by kernel_rfl) (fun x => by kernel_rfl)

def s_spec_CaptureInts : Sig := { params := [.val true y92], res := [.row 3 y3 false] }
noncomputable def e_spec_CaptureInts : Entry := ⟨s_spec_CaptureInts, fun a => D.spec_CaptureInts a⟩
noncomputable def v_spec_CaptureInts : Env := { ti := look tab, Γ := fns [(175, [], e_spec_ResourceInts)], loop := fun _ => none, cut := fun _ => none, deep := fun _ => false }
theorem c_spec_CaptureInts : Contract Tryz.prog 162 e_spec_CaptureInts.sig e_spec_CaptureInts.F :=
  den_is (E := v_spec_CaptureInts) ⟨tab_ti, tab_eq⟩ (fns_cons c_spec_ResourceInts (fns_nil _)) mixed Tryz.func162 (by kernel_rfl) (by kernel_rfl) (fun x => by kernel_rfl)

def s_spec_l30Captures : Sig := { params := [.val false y32], res := [.row 3 y3 false] }
noncomputable def e_spec_l30Captures : Entry := ⟨s_spec_l30Captures, fun a => D.spec_l30Captures a⟩
noncomputable def v_spec_l30Captures : Env := { ti := look tab, Γ := fns [(162, [], e_spec_CaptureInts), (141, [], e_spec_Hash)], loop := fun b => match b with | 0 => some [.slot 3 (.own 3 y3 false), .slot 4 (.int .i64)] | _ => none, cut := fun _ => none, deep := fun _ => false }
theorem c_spec_l30Captures : Contract Tryz.prog 144 e_spec_l30Captures.sig e_spec_l30Captures.F :=
  den_is (E := v_spec_l30Captures) ⟨tab_ti, tab_eq⟩ (fns_cons c_spec_CaptureInts (fns_cons c_spec_Hash (fns_nil _))) mixed Tryz.func144 (by kernel_rfl) (by kernel_rfl) (fun x => by kernel_rfl)

def s_spec_RootOf : Sig := { params := [.val false y24], res := [.val false y3] }
noncomputable def e_spec_RootOf : Entry := ⟨s_spec_RootOf, fun a => D.spec_RootOf a⟩
noncomputable def v_spec_RootOf (n : Nat) : Env := { ti := look tab, Γ := fns [(140, [], ⟨s_spec_RootOf, fun a => D.spec_RootOf_f n a⟩), (141, [], e_spec_Hash)], loop := fun _ => none, cut := fun _ => none, deep := fun _ => false }
theorem cf_spec_RootOf : ∀ n : Nat, Contract Tryz.prog 140 s_spec_RootOf (fun a => D.spec_RootOf_f n a)
  | 0 => ⟨⟨_, Tryz.func140, by kernel_rfl, by kernel_rfl⟩, fun a out w S lent cx vals hF => by cases hF⟩
  | n + 1 => have ih := cf_spec_RootOf n; den_is (E := v_spec_RootOf n) ⟨tab_ti, tab_eq⟩ (fns_cons ih (fns_cons c_spec_Hash (fns_nil _))) mixed Tryz.func140 (by kernel_rfl) (by kernel_rfl) (fun x => by kernel_rfl)
theorem c_spec_RootOf : Contract Tryz.prog 140 e_spec_RootOf.sig e_spec_RootOf.F := ⟨(cf_spec_RootOf 0).1, fun a => (cf_spec_RootOf (a.length + 1)).2 a⟩

def s_spec_SealContainer : Sig := { params := [.val false y38, .val false y55, .val false y32], res := [.row 97 y97 false, .row 76 y76 false, .row 92 y92 true, .val false y3], rgroups := [some 4] }
noncomputable def e_spec_SealContainer : Entry := ⟨s_spec_SealContainer, fun a => D.spec_SealContainer a.1 a.2.1 a.2.2⟩
noncomputable def v_spec_SealContainer : Env := { ti := look tab, Γ := fns [(139, [], e_spec_l15Copy), (142, [], e_spec_ScriptInts), (141, [], e_spec_Hash), (143, [], e_spec_l30Entries), (144, [], e_spec_l30Captures), (140, [], e_spec_RootOf)], loop := fun _ => none, cut := fun _ => none, deep := fun _ => false }
theorem c_spec_SealContainer : Contract Tryz.prog 117 e_spec_SealContainer.sig e_spec_SealContainer.F :=
  den_is (E := v_spec_SealContainer) ⟨tab_ti, tab_eq⟩ (fns_cons c_spec_l15Copy (fns_cons c_spec_ScriptInts (fns_cons c_spec_Hash (fns_cons c_spec_l30Entries (fns_cons c_spec_l30Captures (fns_cons c_spec_RootOf (fns_nil _))))))) mixed Tryz.func117 (by kernel_rfl) (by kernel_rfl) (fun x => by kernel_rfl)

def s_spec_ContainVisit : Sig := { params := [.val false y38, .val true y36], res := [.row 97 y97 false, .row 76 y76 false, .row 92 y92 true, .val false y3, .val false y4], rgroups := [some 4, none] }
noncomputable def e_spec_ContainVisit : Entry := ⟨s_spec_ContainVisit, fun a => D.spec_ContainVisit a.1 a.2⟩
noncomputable def v_spec_ContainVisit : Env := { ti := look tab, Γ := fns [(146, [], e_spec_IsScript), (147, [], e_spec_IsVisit), (78, [], e_spec_RecordVisit), (37, [], e_spec_CapturesOf), (117, [], e_spec_SealContainer)], loop := fun _ => none, cut := fun _ => none, deep := fun _ => false }
theorem c_spec_ContainVisit : Contract Tryz.prog 137 e_spec_ContainVisit.sig e_spec_ContainVisit.F :=
  den_is (E := v_spec_ContainVisit) ⟨tab_ti, tab_eq⟩ (fns_cons c_spec_IsScript (fns_cons c_spec_IsVisit (fns_cons c_spec_RecordVisit (fns_cons c_spec_CapturesOf (fns_cons c_spec_SealContainer (fns_nil _)))))) mixed Tryz.func137 (by kernel_rfl) (by kernel_rfl) (fun x => by kernel_rfl)

def s_spec_l30Draw : Sig := { params := [.ioptr y171], res := [.row 97 y97 false, .row 76 y76 false, .row 92 y92 true, .val false y3], rgroups := [some 4] }
noncomputable def e_spec_l30Draw : Entry := ⟨s_spec_l30Draw, fun a => D.spec_l30Draw a⟩
noncomputable def v_spec_l30Draw : Env := { ti := look tab, Γ := fns [(127, [], e_spec_l10Draw), (130, [], e_spec_l12Draw), (137, [], e_spec_ContainVisit)], loop := fun _ => none, cut := fun _ => none, deep := fun _ => false }
theorem c_spec_l30Draw : Contract Tryz.prog 115 e_spec_l30Draw.sig e_spec_l30Draw.F :=
  den_is (E := v_spec_l30Draw) ⟨tab_ti, tab_eq⟩ (fns_cons c_spec_l10Draw (fns_cons c_spec_l12Draw (fns_cons c_spec_ContainVisit (fns_nil _)))) mixed Tryz.func115 (by kernel_rfl) (by kernel_rfl) (fun x => by kernel_rfl)

def s_spec_l30Any : Sig := { params := [.ioptr y171], res := [.row 97 y97 false, .row 76 y76 false, .row 92 y92 true, .val false y3], rgroups := [some 4] }
noncomputable def e_spec_l30Any : Entry := ⟨s_spec_l30Any, fun a => D.spec_l30Any a⟩
noncomputable def v_spec_l30Any : Env := { ti := look tab, Γ := fns [(115, [], e_spec_l30Draw), (116, [], e_spec_l1Below), (91, [], e_spec_l10Any)], loop := fun _ => none, cut := fun _ => none, deep := fun _ => false }
theorem c_spec_l30Any : Contract Tryz.prog 73 e_spec_l30Any.sig e_spec_l30Any.F :=
  den_is (E := v_spec_l30Any) ⟨tab_ti, tab_eq⟩ (fns_cons c_spec_l30Draw (fns_cons c_spec_l1Below (fns_cons c_spec_l10Any (fns_nil _)))) mixed Tryz.func73 (by kernel_rfl) (by kernel_rfl) (fun x => by kernel_rfl)

def s_spec_l30Copy : Sig := { params := [.val true y57], res := [.row 97 y97 false, .row 76 y76 false, .row 92 y92 true, .val false y3], rgroups := [some 4] }
noncomputable def e_spec_l30Copy : Entry := ⟨s_spec_l30Copy, fun a => D.spec_l30Copy a⟩
noncomputable def v_spec_l30Copy : Env := { ti := look tab, Γ := fns [(117, [], e_spec_SealContainer)], loop := fun _ => none, cut := fun _ => none, deep := fun _ => false }
theorem c_spec_l30Copy : Contract Tryz.prog 75 e_spec_l30Copy.sig e_spec_l30Copy.F :=
  den_is (E := v_spec_l30Copy) ⟨tab_ti, tab_eq⟩ (fns_cons c_spec_SealContainer (fns_nil _)) mixed Tryz.func75 (by kernel_rfl) (by kernel_rfl) (fun x => by kernel_rfl)

def s_spec_DrawEqualContainers : Sig := { params := [.val false y51], res := [.row 97 y97 false, .row 76 y76 false, .row 92 y92 true, .val false y3, .row 97 y97 false, .row 76 y76 false, .row 92 y92 true, .val false y3], rgroups := [some 4, some 4] }
noncomputable def e_spec_DrawEqualContainers : Entry := ⟨s_spec_DrawEqualContainers, fun a => D.spec_DrawEqualContainers a⟩
noncomputable def v_spec_DrawEqualContainers : Env := { ti := look tab, Γ := fns [(72, [], e_spec_l1New), (73, [], e_spec_l30Any), (74, [], e_spec_l1Once), (75, [], e_spec_l30Copy)], loop := fun _ => none, cut := fun _ => none, deep := fun _ => false }
theorem c_spec_DrawEqualContainers : Contract Tryz.prog 33 e_spec_DrawEqualContainers.sig e_spec_DrawEqualContainers.F :=
  den_is (E := v_spec_DrawEqualContainers) ⟨tab_ti, tab_eq⟩ (fns_cons c_spec_l1New (fns_cons c_spec_l30Any (fns_cons c_spec_l1Once (fns_cons c_spec_l30Copy (fns_nil _))))) mixed Tryz.func33 (by kernel_rfl) (by kernel_rfl) (fun x => by kernel_rfl)

def s_laws_FnContainers : Sig := { params := [.val false y51], res := [.val false y4] }
noncomputable def e_laws_FnContainers : Entry := ⟨s_laws_FnContainers, fun a => D.laws_FnContainers a⟩
noncomputable def v_laws_FnContainers : Env := { ti := look tab, Γ := fns [(22, [], e_laws_big), (23, [], e_spec_DrawContainVisit), (24, [], e_impl_ContainVisit), (25, [], e_impl_IsScript), (26, [], e_impl_IsVisit), (27, [], e_impl_RecordVisit), (28, [], e_impl_PlayContainer), (29, [], e_impl_IsContainer), (30, [], e_impl_EqualStates), (31, [], e_impl_SealContainer), (32, [], e_impl_EqualContainers), (33, [], e_spec_DrawEqualContainers)], loop := fun _ => none, cut := fun _ => none, deep := fun _ => false }
theorem c_laws_FnContainers : Contract Tryz.prog 5 e_laws_FnContainers.sig e_laws_FnContainers.F :=
  den_is (E := v_laws_FnContainers) ⟨tab_ti, tab_eq⟩ (fns_cons c_laws_big (fns_cons c_spec_DrawContainVisit (fns_cons c_impl_ContainVisit (fns_cons c_impl_IsScript (fns_cons c_impl_IsVisit (fns_cons c_impl_RecordVisit (fns_cons c_impl_PlayContainer (fns_cons c_impl_IsContainer (fns_cons c_impl_EqualStates (fns_cons c_impl_SealContainer (fns_cons c_impl_EqualContainers (fns_cons c_spec_DrawEqualContainers (fns_nil _))))))))))))) mixed Tryz.func5 (by kernel_rfl) (by kernel_rfl) (fun x => by kernel_rfl)

theorem law_true (a : Tup (s_laws_FnContainers.params.map PTy.den)) (hok : argsOk Tryz.prog s_laws_FnContainers.params a) : D.laws_FnContainers a = some true := D.FnContainers_true a (Ty.ok_bd (P := Tryz.prog) (t := y51) (by kernel_rfl) hok.1)
theorem lifted (os : Os) (started : os.Started) (H : Type) (enc : TypeId × Value → H) :
    ReturnsInHanded {} Tryz.checked os 5 .any (Rows.fnContainersSpec.pre6 enc Tryz.prog Tryz.f5 Rows.fnContainersRow.domain false) (Rows.fnContainersSpec.post enc Tryz.prog Tryz.f5 false true false false) := by
  refine returnsInHanded_of_change_sized (C := Tryz.checked) (by kernel_rfl) started (by kernel_rfl) Tryz.func5
    (ChangeSpec.witness6 (enc := enc) (C := Tryz.checked) false ⟨#[], #[.slice none 0 0], []⟩ 8 (by kernel_rfl) (by kernel_rfl) (by kernel_rfl) (by kernel_rfl)) ?_
  intro W base args ds gs before hval hW hcnd hsz _
  exact law_row (C := Tryz.checked) rfl c_laws_FnContainers (N := 8) (by kernel_rfl) (tb := 4) (by kernel_rfl) (by kernel_rfl) (by kernel_rfl) (by kernel_rfl) rfl
    (fun ds h => by
      have h : ds.length = 1 := h
      match ds, h with
      | [d0], _ => rfl)
    bulky_sizeOf (small := fun _ => True) (fun a ds hok _ _ => ⟨_, law_true a hok, rfl⟩) hval hW hsz trivial

theorem over : Rows.fnContainersRow.holds Tryz.pinned (OpenSpec.ofChange Rows.fnContainersSpec) :=
  OpenClaim.holds_of_wide 5 Tryz.f5 rfl rfl rfl rfl rfl rfl rfl ⟨rfl, rfl, rfl, rfl, rfl⟩ rfl rfl rfl rfl rfl (by kernel_rfl) Tryz.func5 (by kernel_rfl)
    (of_decide_eq_true (by kernel_rfl)) (by unfold Func.isWrapper; first | (rw [if_pos (by decide +kernel)]; kernel_rfl) | (rw [if_neg (by decide +kernel)]; exact ⟨rfl, rfl⟩))
    (fun os started H enc _ => lifted os started H enc)
end Go.Proofs.YtombapmoifkmlaaGreat.SxFnContainers
namespace Go.Proofs.YtombapmoifkmlaaGreat
theorem fnContainers_holds : Rows.FnContainersSaid := SxFnContainers.over
end Go.Proofs.YtombapmoifkmlaaGreat
