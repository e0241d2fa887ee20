/- FnExactEqualContainers returns true for every input, and each input reads as it did. No condition. -/
import Derived.Test.YtfkjmehjofhoiaaRows
import Derived.Test.YtfkjmehjofhoiaaPuFnExactEqualContainers
import Derived.WalkKit
import Derived.ProofKit
import Derived.ShutString
import Derived.SizedLaws
set_option linter.unusedVariables false
set_option maxRecDepth 100000
set_option maxHeartbeats 4000000
namespace Go.Proofs.Ytfkjmehjofhoiaa.SxFnExactEqualContainers
open Go Go.Sh Go.RowKit
def y3 : Ty := .int .i64
def y4 : Ty := .bool
def y156 : Ty := .pair y3 (.pair y3 (.pair y3 y3))
def y22 : Ty := .slice 156 y156
def y100 : Ty := .pair y3 (.pair y3 y3)
def y162 : Ty := .pair y3 (.pair y100 y3)
def y23 : Ty := .slice 162 y162
def y61 : Ty := .slice 3 y3
def y120 : Ty := .pair y3 (.pair y61 y100)
def y122 : Ty := .pair y100 (.pair y3 y120)
def y24 : Ty := .slice 122 y122
def y26 : Ty := .pair y22 (.pair y23 (.pair y24 y3))
def y117 : Ty := .pair y3 (.pair y3 (.pair y3 y3))
def y29 : Ty := .slice 117 y117
def y60 : Ty := .pair y3 (.pair y3 y3)
def y159 : Ty := .pair y3 (.pair y60 y3)
def y30 : Ty := .slice 159 y159
def y63 : Ty := .pair y3 (.pair y61 y60)
def y65 : Ty := .pair y60 (.pair y3 y63)
def y31 : Ty := .slice 65 y65
def y33 : Ty := .pair y29 (.pair y30 (.pair y31 y3))
def tab : List (TypeId × TI) := [(3, { size := 1, bytes := 8, agg := false, ty := some y3 }),
  (4, { size := 1, bytes := 1, agg := false, ty := some y4 }),
  (156, { size := 4, bytes := 32, agg := true, ty := some y156, fields := [(0, 3), (1, 3), (2, 3), (3, 3)] }),
  (22, { size := 1, bytes := 24, agg := false, ty := some y22, elem := some 156 }),
  (100, { size := 3, bytes := 24, agg := true, ty := some y100, fields := [(0, 3), (1, 3), (2, 3)] }),
  (162, { size := 5, bytes := 40, agg := true, ty := some y162, fields := [(0, 3), (1, 100), (4, 3)] }),
  (23, { size := 1, bytes := 24, agg := false, ty := some y23, elem := some 162 }),
  (61, { size := 1, bytes := 24, agg := false, ty := some y61, elem := some 3 }),
  (120, { size := 5, bytes := 56, agg := true, ty := some y120, fields := [(0, 3), (1, 61), (2, 100)] }),
  (122, { size := 9, bytes := 88, agg := true, ty := some y122, fields := [(0, 100), (3, 3), (4, 120)] }),
  (24, { size := 1, bytes := 24, agg := false, ty := some y24, elem := some 122 }),
  (26, { size := 4, bytes := 80, agg := true, ty := some y26, fields := [(0, 22), (1, 23), (2, 24), (3, 3)] }),
  (117, { size := 4, bytes := 32, agg := true, ty := some y117, fields := [(0, 3), (1, 3), (2, 3), (3, 3)], eq := true }),
  (29, { size := 1, bytes := 24, agg := false, ty := some y29, elem := some 117 }),
  (60, { size := 3, bytes := 24, agg := true, ty := some y60, fields := [(0, 3), (1, 3), (2, 3)], eq := true }),
  (159, { size := 5, bytes := 40, agg := true, ty := some y159, fields := [(0, 3), (1, 60), (4, 3)], eq := true }),
  (30, { size := 1, bytes := 24, agg := false, ty := some y30, elem := some 159 }),
  (63, { size := 5, bytes := 56, agg := true, ty := some y63, fields := [(0, 3), (1, 61), (2, 60)] }),
  (65, { size := 9, bytes := 88, agg := true, ty := some y65, fields := [(0, 60), (3, 3), (4, 63)] }),
  (31, { size := 1, bytes := 24, agg := false, ty := some y31, elem := some 65 }),
  (33, { size := 4, bytes := 80, agg := true, ty := some y33, fields := [(0, 29), (1, 30), (2, 31), (3, 3)] })]
def look : List (TypeId × TI) → TypeId → Option TI
  | [], _ => none
  | (k, i) :: r, t => if Nat.beq t k = true then some i else look r t
theorem look_ok {P : Program} : ∀ {l : List (TypeId × TI)}, (l.all fun p => tiOk P p.1 p.2) = true → ∀ t i, look l t = some i → tiOk P t i = true
  | [], _, t, i, h => by simp [look] at h
  | (k, j) :: r, h0, t, i, h => by
    simp only [List.all_cons, Bool.and_eq_true] at h0
    simp only [look] at h
    split at h
    · rename_i hk
      simp only [Option.some.injEq] at h
      have := Nat.eq_of_beq_eq_true hk
      subst this; subst h; exact h0.1
    · exact look_ok h0.2 t i h
theorem look_eq {P : Program} : ∀ {l : List (TypeId × TI)}, (l.all fun p => !p.2.eq || eqTop P p.1 p.2.ty) = true → ∀ t i, look l t = some i → i.eq = true → ∀ ty, i.ty = some ty → EqLaw P t ty.zero
  | [], _, t, i, h => by simp [look] at h
  | (k, j) :: r, h0, t, i, h => by
    simp only [List.all_cons, Bool.and_eq_true, Bool.or_eq_true, Bool.not_eq_true'] at h0
    simp only [look] at h
    split at h
    · rename_i hk
      simp only [Option.some.injEq] at h
      have := Nat.eq_of_beq_eq_true hk
      subst this; subst h
      intro he
      exact eqLaw_of (h0.1.resolve_left (by simp [he]))
    · exact look_eq h0.2 t i h
def same : List Nat → List Nat → Bool
  | [], [] => true
  | a :: x, b :: y => Nat.beq a b && same x y
  | _, _ => false
theorem same_eq : ∀ {x y : List Nat}, same x y = true → x = y
  | [], [], _ => rfl
  | a :: x, b :: y, h => by
    simp only [same, Bool.and_eq_true] at h
    rw [Nat.eq_of_beq_eq_true h.1, same_eq h.2]
  | [], _ :: _, h => by simp [same] at h
  | _ :: _, [], h => by simp [same] at h
def fns : List (FuncId × List FuncId × Entry) → FuncId → List FuncId → Option Entry
  | [], _, _ => none
  | (k, c, e) :: r, f, fs => if (Nat.beq f k && same fs c) = true then some e else fns r f fs
theorem fns_nil (P : Program) : ∀ f fs en, fns [] f fs = some en → Contract P f en.sig en.F := fun f fs en h => by simp [fns] at h
theorem fns_cons {P : Program} {k : FuncId} {c : List FuncId} {e : Entry} {r : List (FuncId × List FuncId × Entry)} (hk : Contract P k e.sig e.F) (hr : ∀ f fs en, fns r f fs = some en → Contract P f en.sig en.F) : ∀ f fs en, fns ((k, c, e) :: r) f fs = some en → Contract P f en.sig en.F := fun f fs en h => by
  simp only [fns] at h
  split at h
  · rename_i hf
    simp only [Bool.and_eq_true] at hf
    simp only [Option.some.injEq] at h
    have := Nat.eq_of_beq_eq_true hf.1
    subst this; subst h; exact hk
  · exact hr f fs en h

theorem tab_ti : ∀ t i, look tab t = some i → tiOk Try.prog t i = true := look_ok (by kernel_rfl)
theorem tab_eq : ∀ t i, look tab t = some i → i.eq = true → ∀ ty, i.ty = some ty → EqLaw Try.prog t ty.zero := look_eq (by kernel_rfl)
theorem mixed : Try.prog.follows .mixedOrders = true := by kernel_rfl
def s_laws_szOpS : Sig := { params := [.val false y22, .val false y3], res := [.val false y3] }
noncomputable def e_laws_szOpS : Entry := ⟨s_laws_szOpS, fun a => D.laws_szOpS a.1 a.2⟩
noncomputable def v_laws_szOpS : Env := { ti := look tab, Γ := fns [], loop := fun _ => none, cut := fun _ => none, deep := fun _ => false }
theorem c_laws_szOpS : Contract Try.prog 36 e_laws_szOpS.sig e_laws_szOpS.F :=
  den_is (E := v_laws_szOpS) ⟨tab_ti, tab_eq⟩ (fns_nil _) mixed Try.func36 (by kernel_rfl) (by kernel_rfl) (fun x => by kernel_rfl)

def s_laws_szEntryS : Sig := { params := [.val false y23, .val false y3], res := [.val false y3] }
noncomputable def e_laws_szEntryS : Entry := ⟨s_laws_szEntryS, fun a => D.laws_szEntryS a.1 a.2⟩
noncomputable def v_laws_szEntryS : Env := { ti := look tab, Γ := fns [], loop := fun _ => none, cut := fun _ => none, deep := fun _ => false }
theorem c_laws_szEntryS : Contract Try.prog 38 e_laws_szEntryS.sig e_laws_szEntryS.F :=
  den_is (E := v_laws_szEntryS) ⟨tab_ti, tab_eq⟩ (fns_nil _) mixed Try.func38 (by kernel_rfl) (by kernel_rfl) (fun x => by kernel_rfl)

def s_laws_szIntS : Sig := { params := [.val false y61, .val false y3], res := [.val false y3] }
noncomputable def e_laws_szIntS : Entry := ⟨s_laws_szIntS, fun a => D.laws_szIntS a.1 a.2⟩
noncomputable def v_laws_szIntS : Env := { ti := look tab, Γ := fns [], loop := fun _ => none, cut := fun _ => none, deep := fun _ => false }
theorem c_laws_szIntS : Contract Try.prog 106 e_laws_szIntS.sig e_laws_szIntS.F :=
  den_is (E := v_laws_szIntS) ⟨tab_ti, tab_eq⟩ (fns_nil _) mixed Try.func106 (by kernel_rfl) (by kernel_rfl) (fun x => by kernel_rfl)

def s_laws_szResource : Sig := { params := [.val true y120, .val false y3], res := [.val false y3] }
noncomputable def e_laws_szResource : Entry := ⟨s_laws_szResource, fun a => D.laws_szResource a.1 a.2⟩
noncomputable def v_laws_szResource : Env := { ti := look tab, Γ := fns [(106, [], e_laws_szIntS)], loop := fun _ => none, cut := fun _ => none, deep := fun _ => false }
theorem c_laws_szResource : Contract Try.prog 139 e_laws_szResource.sig e_laws_szResource.F :=
  den_is (E := v_laws_szResource) ⟨tab_ti, tab_eq⟩ (fns_cons c_laws_szIntS (fns_nil _)) mixed Try.func139 (by kernel_rfl) (by kernel_rfl) (fun x => by kernel_rfl)

def s_laws_szCapture : Sig := { params := [.val true y122, .val false y3], res := [.val false y3] }
noncomputable def e_laws_szCapture : Entry := ⟨s_laws_szCapture, fun a => D.laws_szCapture a.1 a.2⟩
noncomputable def v_laws_szCapture : Env := { ti := look tab, Γ := fns [(139, [], e_laws_szResource)], loop := fun _ => none, cut := fun _ => none, deep := fun _ => false }
theorem c_laws_szCapture : Contract Try.prog 74 e_laws_szCapture.sig e_laws_szCapture.F :=
  den_is (E := v_laws_szCapture) ⟨tab_ti, tab_eq⟩ (fns_cons c_laws_szResource (fns_nil _)) mixed Try.func74 (by kernel_rfl) (by kernel_rfl) (fun x => by kernel_rfl)

def s_laws_szCaptureS : Sig := { params := [.val false y24, .val false y3], res := [.val false y3] }
noncomputable def e_laws_szCaptureS : Entry := ⟨s_laws_szCaptureS, fun a => D.laws_szCaptureS a.1 a.2⟩
noncomputable def v_laws_szCaptureS : Env := { ti := look tab, Γ := fns [(74, [], e_laws_szCapture)], loop := fun b => match b with | 0 => some [.slot 1 (.int .i64), .slot 5 (.int .i64)] | _ => none, cut := fun _ => none, deep := fun _ => false }
theorem c_laws_szCaptureS : Contract Try.prog 15 e_laws_szCaptureS.sig e_laws_szCaptureS.F :=
  den_is (E := v_laws_szCaptureS) ⟨tab_ti, tab_eq⟩ (fns_cons c_laws_szCapture (fns_nil _)) mixed Try.func15 (by kernel_rfl) (by kernel_rfl) (fun x => by kernel_rfl)

def s_laws_szContainer : Sig := { params := [.val true y26, .val false y3], res := [.val false y3] }
noncomputable def e_laws_szContainer : Entry := ⟨s_laws_szContainer, fun a => D.laws_szContainer a.1 a.2⟩
noncomputable def v_laws_szContainer : Env := { ti := look tab, Γ := fns [(36, [], e_laws_szOpS), (38, [], e_laws_szEntryS), (15, [], e_laws_szCaptureS)], loop := fun _ => none, cut := fun _ => none, deep := fun _ => false }
theorem c_laws_szContainer : Contract Try.prog 10 e_laws_szContainer.sig e_laws_szContainer.F :=
  den_is (E := v_laws_szContainer) ⟨tab_ti, tab_eq⟩ (fns_cons c_laws_szOpS (fns_cons c_laws_szEntryS (fns_cons c_laws_szCaptureS (fns_nil _)))) mixed Try.func10 (by kernel_rfl) (by kernel_rfl) (fun x => by kernel_rfl)

def s_laws_toOp : Sig := { params := [.val true y156], res := [.val true y117] }
noncomputable def e_laws_toOp : Entry := ⟨s_laws_toOp, fun a => D.laws_toOp a⟩
noncomputable def v_laws_toOp : Env := { ti := look tab, Γ := fns [], loop := fun _ => none, cut := fun _ => none, deep := fun _ => false }
theorem c_laws_toOp : Contract Try.prog 107 e_laws_toOp.sig e_laws_toOp.F :=
  den_is (E := v_laws_toOp) ⟨tab_ti, tab_eq⟩ (fns_nil _) mixed Try.func107 (by kernel_rfl) (by kernel_rfl) (fun x => by kernel_rfl)

def s_laws_toOpS : Sig := { params := [.val false y22], res := [.row 117 y117 false] }
noncomputable def e_laws_toOpS : Entry := ⟨s_laws_toOpS, fun a => D.laws_toOpS a⟩
noncomputable def v_laws_toOpS : Env := { ti := look tab, Γ := fns [(107, [], e_laws_toOp)], loop := fun b => match b with | 0 => some [.slot 4 (.int .i64), .vec 3 117 y117 false] | _ => none, cut := fun _ => none, deep := fun _ => false }
theorem c_laws_toOpS : Contract Try.prog 40 e_laws_toOpS.sig e_laws_toOpS.F :=
  den_is (E := v_laws_toOpS) ⟨tab_ti, tab_eq⟩ (fns_cons c_laws_toOp (fns_nil _)) mixed Try.func40 (by kernel_rfl) (by kernel_rfl) (fun x => by kernel_rfl)

def s_laws_toAddress : Sig := { params := [.val true y100], res := [.val true y60] }
noncomputable def e_laws_toAddress : Entry := ⟨s_laws_toAddress, fun a => D.laws_toAddress a⟩
noncomputable def v_laws_toAddress : Env := { ti := look tab, Γ := fns [], loop := fun _ => none, cut := fun _ => none, deep := fun _ => false }
theorem c_laws_toAddress : Contract Try.prog 61 e_laws_toAddress.sig e_laws_toAddress.F :=
  den_is (E := v_laws_toAddress) ⟨tab_ti, tab_eq⟩ (fns_nil _) mixed Try.func61 (by kernel_rfl) (by kernel_rfl) (fun x => by kernel_rfl)

def s_laws_toEntry : Sig := { params := [.val true y162], res := [.val true y159] }
noncomputable def e_laws_toEntry : Entry := ⟨s_laws_toEntry, fun a => D.laws_toEntry a⟩
noncomputable def v_laws_toEntry : Env := { ti := look tab, Γ := fns [(61, [], e_laws_toAddress)], loop := fun _ => none, cut := fun _ => none, deep := fun _ => false }
theorem c_laws_toEntry : Contract Try.prog 109 e_laws_toEntry.sig e_laws_toEntry.F :=
  den_is (E := v_laws_toEntry) ⟨tab_ti, tab_eq⟩ (fns_cons c_laws_toAddress (fns_nil _)) mixed Try.func109 (by kernel_rfl) (by kernel_rfl) (fun x => by kernel_rfl)

def s_laws_toEntryS : Sig := { params := [.val false y23], res := [.row 159 y159 false] }
noncomputable def e_laws_toEntryS : Entry := ⟨s_laws_toEntryS, fun a => D.laws_toEntryS a⟩
noncomputable def v_laws_toEntryS : Env := { ti := look tab, Γ := fns [(109, [], e_laws_toEntry)], loop := fun b => match b with | 0 => some [.slot 4 (.int .i64), .vec 3 159 y159 false] | _ => none, cut := fun _ => none, deep := fun _ => false }
theorem c_laws_toEntryS : Contract Try.prog 42 e_laws_toEntryS.sig e_laws_toEntryS.F :=
  den_is (E := v_laws_toEntryS) ⟨tab_ti, tab_eq⟩ (fns_cons c_laws_toEntry (fns_nil _)) mixed Try.func42 (by kernel_rfl) (by kernel_rfl) (fun x => by kernel_rfl)

def s_laws_toIntS : Sig := { params := [.val false y61], res := [.row 3 y3 false] }
noncomputable def e_laws_toIntS : Entry := ⟨s_laws_toIntS, fun a => D.laws_toIntS a⟩
noncomputable def v_laws_toIntS : Env := { ti := look tab, Γ := fns [], loop := fun b => match b with | 0 => some [.slot 4 (.int .i64), .vec 3 3 y3 false] | _ => none, cut := fun _ => none, deep := fun _ => false }
theorem c_laws_toIntS : Contract Try.prog 108 e_laws_toIntS.sig e_laws_toIntS.F :=
  den_is (E := v_laws_toIntS) ⟨tab_ti, tab_eq⟩ (fns_nil _) mixed Try.func108 (by kernel_rfl) (by kernel_rfl) (fun x => by kernel_rfl)

def s_laws_toResource : Sig := { params := [.val true y120], res := [.val true y63] }
noncomputable def e_laws_toResource : Entry := ⟨s_laws_toResource, fun a => D.laws_toResource a⟩
noncomputable def v_laws_toResource : Env := { ti := look tab, Γ := fns [(108, [], e_laws_toIntS), (61, [], e_laws_toAddress)], loop := fun _ => none, cut := fun _ => none, deep := fun _ => false }
theorem c_laws_toResource : Contract Try.prog 142 e_laws_toResource.sig e_laws_toResource.F :=
  den_is (E := v_laws_toResource) ⟨tab_ti, tab_eq⟩ (fns_cons c_laws_toIntS (fns_cons c_laws_toAddress (fns_nil _))) mixed Try.func142 (by kernel_rfl) (by kernel_rfl) (fun x => by kernel_rfl)

def s_laws_toCapture : Sig := { params := [.val true y122], res := [.val true y65] }
noncomputable def e_laws_toCapture : Entry := ⟨s_laws_toCapture, fun a => D.laws_toCapture a⟩
noncomputable def v_laws_toCapture : Env := { ti := look tab, Γ := fns [(61, [], e_laws_toAddress), (142, [], e_laws_toResource)], loop := fun _ => none, cut := fun _ => none, deep := fun _ => false }
theorem c_laws_toCapture : Contract Try.prog 77 e_laws_toCapture.sig e_laws_toCapture.F :=
  den_is (E := v_laws_toCapture) ⟨tab_ti, tab_eq⟩ (fns_cons c_laws_toAddress (fns_cons c_laws_toResource (fns_nil _))) mixed Try.func77 (by kernel_rfl) (by kernel_rfl) (fun x => by kernel_rfl)

def s_laws_toCaptureS : Sig := { params := [.val false y24], res := [.row 65 y65 false] }
noncomputable def e_laws_toCaptureS : Entry := ⟨s_laws_toCaptureS, fun a => D.laws_toCaptureS a⟩
noncomputable def v_laws_toCaptureS : Env := { ti := look tab, Γ := fns [(77, [], e_laws_toCapture)], loop := fun b => match b with | 0 => some [.slot 4 (.int .i64), .vec 3 65 y65 false] | _ => none, cut := fun _ => none, deep := fun _ => false }
theorem c_laws_toCaptureS : Contract Try.prog 18 e_laws_toCaptureS.sig e_laws_toCaptureS.F :=
  den_is (E := v_laws_toCaptureS) ⟨tab_ti, tab_eq⟩ (fns_cons c_laws_toCapture (fns_nil _)) mixed Try.func18 (by kernel_rfl) (by kernel_rfl) (fun x => by kernel_rfl)

def s_laws_toContainer : Sig := { params := [.val true y26], res := [.val true y33] }
noncomputable def e_laws_toContainer : Entry := ⟨s_laws_toContainer, fun a => D.laws_toContainer a⟩
noncomputable def v_laws_toContainer : Env := { ti := look tab, Γ := fns [(40, [], e_laws_toOpS), (42, [], e_laws_toEntryS), (18, [], e_laws_toCaptureS)], loop := fun _ => none, cut := fun _ => none, deep := fun _ => false }
theorem c_laws_toContainer : Contract Try.prog 12 e_laws_toContainer.sig e_laws_toContainer.F :=
  den_is (E := v_laws_toContainer) ⟨tab_ti, tab_eq⟩ (fns_cons c_laws_toOpS (fns_cons c_laws_toEntryS (fns_cons c_laws_toCaptureS (fns_nil _)))) mixed Try.func12 (by kernel_rfl) (by kernel_rfl) (fun x => by kernel_rfl)

def s_spec_ScriptInts : Sig := { params := [.val false y29], res := [.row 3 y3 false] }
noncomputable def e_spec_ScriptInts : Entry := ⟨s_spec_ScriptInts, fun a => D.spec_ScriptInts a⟩
noncomputable def v_spec_ScriptInts : Env := { ti := look tab, Γ := fns [], loop := fun b => match b with | 0 => some [.slot 3 (.own 3 y3 false), .slot 4 (.int .i64)] | _ => none, cut := fun _ => none, deep := fun _ => false }
theorem c_spec_ScriptInts : Contract Try.prog 69 e_spec_ScriptInts.sig e_spec_ScriptInts.F :=
  den_is (E := v_spec_ScriptInts) ⟨tab_ti, tab_eq⟩ (fns_nil _) mixed Try.func69 (by kernel_rfl) (by kernel_rfl) (fun x => by kernel_rfl)

def s_spec_EqualInts : Sig := { params := [.val false y61, .val false y61], res := [.val false y4] }
noncomputable def e_spec_EqualInts : Entry := ⟨s_spec_EqualInts, fun a => D.spec_EqualInts a.1 a.2⟩
noncomputable def v_spec_EqualInts : Env := { ti := look tab, Γ := fns [], loop := fun b => match b with | 0 => some [.slot 5 (.int .i64)] | _ => none, cut := fun _ => none, deep := fun _ => false }
theorem c_spec_EqualInts : Contract Try.prog 68 e_spec_EqualInts.sig e_spec_EqualInts.F :=
  den_is (E := v_spec_EqualInts) ⟨tab_ti, tab_eq⟩ (fns_nil _) mixed Try.func68 (by kernel_rfl) (by kernel_rfl) (fun x => by kernel_rfl)

def s_spec_EqualEntries : Sig := { params := [.val false y30, .val false y30], res := [.val false y4] }
noncomputable def e_spec_EqualEntries : Entry := ⟨s_spec_EqualEntries, fun a => D.spec_EqualEntries a.1 a.2⟩
noncomputable def v_spec_EqualEntries : Env := { ti := look tab, Γ := fns [], loop := fun b => match b with | 0 => some [.slot 5 (.int .i64)] | _ => none, cut := fun _ => none, deep := fun _ => false }
theorem c_spec_EqualEntries : Contract Try.prog 70 e_spec_EqualEntries.sig e_spec_EqualEntries.F :=
  den_is (E := v_spec_EqualEntries) ⟨tab_ti, tab_eq⟩ (fns_nil _) mixed Try.func70 (by kernel_rfl) (by kernel_rfl) (fun x => by kernel_rfl)

def s_spec_EqualResources : Sig := { params := [.val true y63, .val true y63], res := [.val false y4] }
noncomputable def e_spec_EqualResources : Entry := ⟨s_spec_EqualResources, fun a => D.spec_EqualResources a.1 a.2⟩
noncomputable def v_spec_EqualResources : Env := { ti := look tab, Γ := fns [(68, [], e_spec_EqualInts)], loop := fun _ => none, cut := fun _ => none, deep := fun _ => false }
theorem c_spec_EqualResources : Contract Try.prog 180 e_spec_EqualResources.sig e_spec_EqualResources.F :=
  den_is (E := v_spec_EqualResources) ⟨tab_ti, tab_eq⟩ (fns_cons c_spec_EqualInts (fns_nil _)) mixed Try.func180 (by kernel_rfl) (by kernel_rfl) (fun x => by kernel_rfl)

def s_spec_l15Same : Sig := { params := [.val true y65, .val true y65], res := [.val false y4] }
noncomputable def e_spec_l15Same : Entry := ⟨s_spec_l15Same, fun a => D.spec_l15Same a.1 a.2⟩
noncomputable def v_spec_l15Same : Env := { ti := look tab, Γ := fns [(180, [], e_spec_EqualResources)], loop := fun _ => none, cut := fun _ => none, deep := fun _ => false }
theorem c_spec_l15Same : Contract Try.prog 137 e_spec_l15Same.sig e_spec_l15Same.F :=
  den_is (E := v_spec_l15Same) ⟨tab_ti, tab_eq⟩ (fns_cons c_spec_EqualResources (fns_nil _)) mixed Try.func137 (by kernel_rfl) (by kernel_rfl) (fun x => by kernel_rfl)

def s_spec_EqualCaptures : Sig := { params := [.val false y31, .val false y31], res := [.val false y4] }
noncomputable def e_spec_EqualCaptures : Entry := ⟨s_spec_EqualCaptures, fun a => D.spec_EqualCaptures a.1 a.2⟩
noncomputable def v_spec_EqualCaptures : Env := { ti := look tab, Γ := fns [(137, [], e_spec_l15Same)], loop := fun b => match b with | 0 => some [.slot 5 (.int .i64)] | _ => none, cut := fun _ => none, deep := fun _ => false }
theorem c_spec_EqualCaptures : Contract Try.prog 71 e_spec_EqualCaptures.sig e_spec_EqualCaptures.F :=
  den_is (E := v_spec_EqualCaptures) ⟨tab_ti, tab_eq⟩ (fns_cons c_spec_l15Same (fns_nil _)) mixed Try.func71 (by kernel_rfl) (by kernel_rfl) (fun x => by kernel_rfl)

def s_spec_EqualContainers : Sig := { params := [.val true y33, .val true y33], res := [.val false y4] }
noncomputable def e_spec_EqualContainers : Entry := ⟨s_spec_EqualContainers, fun a => D.spec_EqualContainers a.1 a.2⟩
noncomputable def v_spec_EqualContainers : Env := { ti := look tab, Γ := fns [(69, [], e_spec_ScriptInts), (68, [], e_spec_EqualInts), (70, [], e_spec_EqualEntries), (71, [], e_spec_EqualCaptures)], loop := fun _ => none, cut := fun _ => none, deep := fun _ => false }
theorem c_spec_EqualContainers : Contract Try.prog 11 e_spec_EqualContainers.sig e_spec_EqualContainers.F :=
  den_is (E := v_spec_EqualContainers) ⟨tab_ti, tab_eq⟩ (fns_cons c_spec_ScriptInts (fns_cons c_spec_EqualInts (fns_cons c_spec_EqualEntries (fns_cons c_spec_EqualCaptures (fns_nil _))))) mixed Try.func11 (by kernel_rfl) (by kernel_rfl) (fun x => by kernel_rfl)

def s_slices_Equal_Op : Sig := { params := [.val false y29, .val false y29], res := [.val false y4] }
noncomputable def e_slices_Equal_Op : Entry := ⟨s_slices_Equal_Op, fun a => D.slices_Equal_Op a.1 a.2⟩
noncomputable def v_slices_Equal_Op : Env := { ti := look tab, Γ := fns [], loop := fun b => match b with | 0 => some [.slot 13 (.int .i64)] | _ => none, cut := fun _ => none, deep := fun _ => false }
theorem c_slices_Equal_Op : Contract Try.prog 72 e_slices_Equal_Op.sig e_slices_Equal_Op.F :=
  den_is (E := v_slices_Equal_Op) ⟨tab_ti, tab_eq⟩ (fns_nil _) mixed Try.func72 (by kernel_rfl) (by kernel_rfl) (fun x => by kernel_rfl)

def s_slices_Equal_Entry : Sig := { params := [.val false y30, .val false y30], res := [.val false y4] }
noncomputable def e_slices_Equal_Entry : Entry := ⟨s_slices_Equal_Entry, fun a => D.slices_Equal_Entry a.1 a.2⟩
noncomputable def v_slices_Equal_Entry : Env := { ti := look tab, Γ := fns [], loop := fun b => match b with | 0 => some [.slot 13 (.int .i64)] | _ => none, cut := fun _ => none, deep := fun _ => false }
theorem c_slices_Equal_Entry : Contract Try.prog 138 e_slices_Equal_Entry.sig e_slices_Equal_Entry.F :=
  den_is (E := v_slices_Equal_Entry) ⟨tab_ti, tab_eq⟩ (fns_nil _) mixed Try.func138 (by kernel_rfl) (by kernel_rfl) (fun x => by kernel_rfl)

def s_impl_EqualEntries : Sig := { params := [.val false y30, .val false y30], res := [.val false y4] }
noncomputable def e_impl_EqualEntries : Entry := ⟨s_impl_EqualEntries, fun a => D.impl_EqualEntries a.1 a.2⟩
noncomputable def v_impl_EqualEntries : Env := { ti := look tab, Γ := fns [(138, [], e_slices_Equal_Entry)], loop := fun _ => none, cut := fun _ => none, deep := fun _ => false }
theorem c_impl_EqualEntries : Contract Try.prog 73 e_impl_EqualEntries.sig e_impl_EqualEntries.F :=
  den_is (E := v_impl_EqualEntries) ⟨tab_ti, tab_eq⟩ (fns_cons c_slices_Equal_Entry (fns_nil _)) mixed Try.func73 (by kernel_rfl) (by kernel_rfl) (fun x => by kernel_rfl)

def s_slices_Equal_int : Sig := { params := [.val false y61, .val false y61], res := [.val false y4] }
noncomputable def e_slices_Equal_int : Entry := ⟨s_slices_Equal_int, fun a => D.slices_Equal_int a.1 a.2⟩
noncomputable def v_slices_Equal_int : Env := { ti := look tab, Γ := fns [], loop := fun b => match b with | 0 => some [.slot 13 (.int .i64)] | _ => none, cut := fun _ => none, deep := fun _ => false }
theorem c_slices_Equal_int : Contract Try.prog 177 e_slices_Equal_int.sig e_slices_Equal_int.F :=
  den_is (E := v_slices_Equal_int) ⟨tab_ti, tab_eq⟩ (fns_nil _) mixed Try.func177 (by kernel_rfl) (by kernel_rfl) (fun x => by kernel_rfl)

def s_impl_EqualResources : Sig := { params := [.val true y63, .val true y63], res := [.val false y4] }
noncomputable def e_impl_EqualResources : Entry := ⟨s_impl_EqualResources, fun a => D.impl_EqualResources a.1 a.2⟩
noncomputable def v_impl_EqualResources : Env := { ti := look tab, Γ := fns [(177, [], e_slices_Equal_int)], loop := fun _ => none, cut := fun _ => none, deep := fun _ => false }
theorem c_impl_EqualResources : Contract Try.prog 157 e_impl_EqualResources.sig e_impl_EqualResources.F :=
  den_is (E := v_impl_EqualResources) ⟨tab_ti, tab_eq⟩ (fns_cons c_slices_Equal_int (fns_nil _)) mixed Try.func157 (by kernel_rfl) (by kernel_rfl) (fun x => by kernel_rfl)

def s_impl_sameCapture : Sig := { params := [.val true y65, .val true y65], res := [.val false y4] }
noncomputable def e_impl_sameCapture : Entry := ⟨s_impl_sameCapture, fun a => D.impl_sameCapture a.1 a.2⟩
noncomputable def v_impl_sameCapture : Env := { ti := look tab, Γ := fns [(157, [], e_impl_EqualResources)], loop := fun _ => none, cut := fun _ => none, deep := fun _ => false }
theorem c_impl_sameCapture : Contract Try.prog 98 e_impl_sameCapture.sig e_impl_sameCapture.F :=
  den_is (E := v_impl_sameCapture) ⟨tab_ti, tab_eq⟩ (fns_cons c_impl_EqualResources (fns_nil _)) mixed Try.func98 (by kernel_rfl) (by kernel_rfl) (fun x => by kernel_rfl)

def s_slices_EqualFunc_Capture_impl_sameCapture : Sig := { params := [.val false y31, .val false y31, .fn 98 []], res := [.val false y4] }
noncomputable def e_slices_EqualFunc_Capture_impl_sameCapture : Entry := ⟨s_slices_EqualFunc_Capture_impl_sameCapture, fun a => D.slices_EqualFunc_Capture_impl_sameCapture a.1 a.2.1⟩
noncomputable def v_slices_EqualFunc_Capture_impl_sameCapture : Env := { ti := look tab, Γ := fns [(98, [], e_impl_sameCapture)], loop := fun b => match b with | 0 => some [.slot 17 (.int .i64)] | _ => none, cut := fun _ => none, deep := fun _ => false }
theorem c_slices_EqualFunc_Capture_impl_sameCapture : Contract Try.prog 97 e_slices_EqualFunc_Capture_impl_sameCapture.sig e_slices_EqualFunc_Capture_impl_sameCapture.F :=
  den_is (E := v_slices_EqualFunc_Capture_impl_sameCapture) ⟨tab_ti, tab_eq⟩ (fns_cons c_impl_sameCapture (fns_nil _)) mixed Try.func97 (by kernel_rfl) (by kernel_rfl) (fun x => by kernel_rfl)

def s_impl_EqualCaptures : Sig := { params := [.val false y31, .val false y31], res := [.val false y4] }
noncomputable def e_impl_EqualCaptures : Entry := ⟨s_impl_EqualCaptures, fun a => D.impl_EqualCaptures a.1 a.2⟩
noncomputable def v_impl_EqualCaptures : Env := { ti := look tab, Γ := fns [(97, [98], e_slices_EqualFunc_Capture_impl_sameCapture)], loop := fun _ => none, cut := fun _ => none, deep := fun _ => false }
theorem c_impl_EqualCaptures : Contract Try.prog 30 e_impl_EqualCaptures.sig e_impl_EqualCaptures.F :=
  den_is (E := v_impl_EqualCaptures) ⟨tab_ti, tab_eq⟩ (fns_cons c_slices_EqualFunc_Capture_impl_sameCapture (fns_nil _)) mixed Try.func30 (by kernel_rfl) (by kernel_rfl) (fun x => by kernel_rfl)

def s_impl_EqualContainers : Sig := { params := [.val true y33, .val true y33], res := [.val false y4] }
noncomputable def e_impl_EqualContainers : Entry := ⟨s_impl_EqualContainers, fun a => D.impl_EqualContainers a.1 a.2⟩
noncomputable def v_impl_EqualContainers : Env := { ti := look tab, Γ := fns [(72, [], e_slices_Equal_Op), (73, [], e_impl_EqualEntries), (30, [], e_impl_EqualCaptures)], loop := fun _ => none, cut := fun _ => none, deep := fun _ => false }
theorem c_impl_EqualContainers : Contract Try.prog 13 e_impl_EqualContainers.sig e_impl_EqualContainers.F :=
  den_is (E := v_impl_EqualContainers) ⟨tab_ti, tab_eq⟩ (fns_cons c_slices_Equal_Op (fns_cons c_impl_EqualEntries (fns_cons c_impl_EqualCaptures (fns_nil _)))) mixed Try.func13 (by kernel_rfl) (by kernel_rfl) (fun x => by kernel_rfl)

def s_laws_eqOp : Sig := { params := [.val true y117, .val true y117], res := [.val false y4] }
noncomputable def e_laws_eqOp : Entry := ⟨s_laws_eqOp, fun a => D.laws_eqOp a.1 a.2⟩
noncomputable def v_laws_eqOp : Env := { ti := look tab, Γ := fns [], loop := fun _ => none, cut := fun _ => none, deep := fun _ => false }
theorem c_laws_eqOp : Contract Try.prog 110 e_laws_eqOp.sig e_laws_eqOp.F :=
  den_is (E := v_laws_eqOp) ⟨tab_ti, tab_eq⟩ (fns_nil _) mixed Try.func110 (by kernel_rfl) (by kernel_rfl) (fun x => by kernel_rfl)

def s_laws_eqOpS : Sig := { params := [.val false y29, .val false y29], res := [.val false y4] }
noncomputable def e_laws_eqOpS : Entry := ⟨s_laws_eqOpS, fun a => D.laws_eqOpS a.1 a.2⟩
noncomputable def v_laws_eqOpS : Env := { ti := look tab, Γ := fns [(110, [], e_laws_eqOp)], loop := fun b => match b with | 0 => some [.slot 5 (.int .i64)] | _ => none, cut := fun _ => none, deep := fun _ => false }
theorem c_laws_eqOpS : Contract Try.prog 44 e_laws_eqOpS.sig e_laws_eqOpS.F :=
  den_is (E := v_laws_eqOpS) ⟨tab_ti, tab_eq⟩ (fns_cons c_laws_eqOp (fns_nil _)) mixed Try.func44 (by kernel_rfl) (by kernel_rfl) (fun x => by kernel_rfl)

def s_laws_eqAddress : Sig := { params := [.val true y60, .val true y60], res := [.val false y4] }
noncomputable def e_laws_eqAddress : Entry := ⟨s_laws_eqAddress, fun a => D.laws_eqAddress a.1 a.2⟩
noncomputable def v_laws_eqAddress : Env := { ti := look tab, Γ := fns [], loop := fun _ => none, cut := fun _ => none, deep := fun _ => false }
theorem c_laws_eqAddress : Contract Try.prog 146 e_laws_eqAddress.sig e_laws_eqAddress.F :=
  den_is (E := v_laws_eqAddress) ⟨tab_ti, tab_eq⟩ (fns_nil _) mixed Try.func146 (by kernel_rfl) (by kernel_rfl) (fun x => by kernel_rfl)

def s_laws_eqEntry : Sig := { params := [.val true y159, .val true y159], res := [.val false y4] }
noncomputable def e_laws_eqEntry : Entry := ⟨s_laws_eqEntry, fun a => D.laws_eqEntry a.1 a.2⟩
noncomputable def v_laws_eqEntry : Env := { ti := look tab, Γ := fns [(146, [], e_laws_eqAddress)], loop := fun _ => none, cut := fun _ => none, deep := fun _ => false }
theorem c_laws_eqEntry : Contract Try.prog 112 e_laws_eqEntry.sig e_laws_eqEntry.F :=
  den_is (E := v_laws_eqEntry) ⟨tab_ti, tab_eq⟩ (fns_cons c_laws_eqAddress (fns_nil _)) mixed Try.func112 (by kernel_rfl) (by kernel_rfl) (fun x => by kernel_rfl)

def s_laws_eqEntryS : Sig := { params := [.val false y30, .val false y30], res := [.val false y4] }
noncomputable def e_laws_eqEntryS : Entry := ⟨s_laws_eqEntryS, fun a => D.laws_eqEntryS a.1 a.2⟩
noncomputable def v_laws_eqEntryS : Env := { ti := look tab, Γ := fns [(112, [], e_laws_eqEntry)], loop := fun b => match b with | 0 => some [.slot 5 (.int .i64)] | _ => none, cut := fun _ => none, deep := fun _ => false }
theorem c_laws_eqEntryS : Contract Try.prog 46 e_laws_eqEntryS.sig e_laws_eqEntryS.F :=
  den_is (E := v_laws_eqEntryS) ⟨tab_ti, tab_eq⟩ (fns_cons c_laws_eqEntry (fns_nil _)) mixed Try.func46 (by kernel_rfl) (by kernel_rfl) (fun x => by kernel_rfl)

def s_laws_eqIntS : Sig := { params := [.val false y61, .val false y61], res := [.val false y4] }
noncomputable def e_laws_eqIntS : Entry := ⟨s_laws_eqIntS, fun a => D.laws_eqIntS a.1 a.2⟩
noncomputable def v_laws_eqIntS : Env := { ti := look tab, Γ := fns [], loop := fun b => match b with | 0 => some [.slot 5 (.int .i64)] | _ => none, cut := fun _ => none, deep := fun _ => false }
theorem c_laws_eqIntS : Contract Try.prog 111 e_laws_eqIntS.sig e_laws_eqIntS.F :=
  den_is (E := v_laws_eqIntS) ⟨tab_ti, tab_eq⟩ (fns_nil _) mixed Try.func111 (by kernel_rfl) (by kernel_rfl) (fun x => by kernel_rfl)

def s_laws_eqResource : Sig := { params := [.val true y63, .val true y63], res := [.val false y4] }
noncomputable def e_laws_eqResource : Entry := ⟨s_laws_eqResource, fun a => D.laws_eqResource a.1 a.2⟩
noncomputable def v_laws_eqResource : Env := { ti := look tab, Γ := fns [(111, [], e_laws_eqIntS), (146, [], e_laws_eqAddress)], loop := fun _ => none, cut := fun _ => none, deep := fun _ => false }
theorem c_laws_eqResource : Contract Try.prog 147 e_laws_eqResource.sig e_laws_eqResource.F :=
  den_is (E := v_laws_eqResource) ⟨tab_ti, tab_eq⟩ (fns_cons c_laws_eqIntS (fns_cons c_laws_eqAddress (fns_nil _))) mixed Try.func147 (by kernel_rfl) (by kernel_rfl) (fun x => by kernel_rfl)

def s_laws_eqCapture : Sig := { params := [.val true y65, .val true y65], res := [.val false y4] }
noncomputable def e_laws_eqCapture : Entry := ⟨s_laws_eqCapture, fun a => D.laws_eqCapture a.1 a.2⟩
noncomputable def v_laws_eqCapture : Env := { ti := look tab, Γ := fns [(146, [], e_laws_eqAddress), (147, [], e_laws_eqResource)], loop := fun _ => none, cut := fun _ => none, deep := fun _ => false }
theorem c_laws_eqCapture : Contract Try.prog 83 e_laws_eqCapture.sig e_laws_eqCapture.F :=
  den_is (E := v_laws_eqCapture) ⟨tab_ti, tab_eq⟩ (fns_cons c_laws_eqAddress (fns_cons c_laws_eqResource (fns_nil _))) mixed Try.func83 (by kernel_rfl) (by kernel_rfl) (fun x => by kernel_rfl)

def s_laws_eqCaptureS : Sig := { params := [.val false y31, .val false y31], res := [.val false y4] }
noncomputable def e_laws_eqCaptureS : Entry := ⟨s_laws_eqCaptureS, fun a => D.laws_eqCaptureS a.1 a.2⟩
noncomputable def v_laws_eqCaptureS : Env := { ti := look tab, Γ := fns [(83, [], e_laws_eqCapture)], loop := fun b => match b with | 0 => some [.slot 5 (.int .i64)] | _ => none, cut := fun _ => none, deep := fun _ => false }
theorem c_laws_eqCaptureS : Contract Try.prog 21 e_laws_eqCaptureS.sig e_laws_eqCaptureS.F :=
  den_is (E := v_laws_eqCaptureS) ⟨tab_ti, tab_eq⟩ (fns_cons c_laws_eqCapture (fns_nil _)) mixed Try.func21 (by kernel_rfl) (by kernel_rfl) (fun x => by kernel_rfl)

def s_laws_eqContainer : Sig := { params := [.val true y33, .val true y33], res := [.val false y4] }
noncomputable def e_laws_eqContainer : Entry := ⟨s_laws_eqContainer, fun a => D.laws_eqContainer a.1 a.2⟩
noncomputable def v_laws_eqContainer : Env := { ti := look tab, Γ := fns [(44, [], e_laws_eqOpS), (46, [], e_laws_eqEntryS), (21, [], e_laws_eqCaptureS)], loop := fun _ => none, cut := fun _ => none, deep := fun _ => false }
theorem c_laws_eqContainer : Contract Try.prog 14 e_laws_eqContainer.sig e_laws_eqContainer.F :=
  den_is (E := v_laws_eqContainer) ⟨tab_ti, tab_eq⟩ (fns_cons c_laws_eqOpS (fns_cons c_laws_eqEntryS (fns_cons c_laws_eqCaptureS (fns_nil _)))) mixed Try.func14 (by kernel_rfl) (by kernel_rfl) (fun x => by kernel_rfl)

def s_laws_FnExactEqualContainers : Sig := { params := [.val true y26, .val true y26], res := [.val false y4] }
noncomputable def e_laws_FnExactEqualContainers : Entry := ⟨s_laws_FnExactEqualContainers, fun a => D.laws_FnExactEqualContainers a.1 a.2⟩
noncomputable def v_laws_FnExactEqualContainers : Env := { ti := look tab, Γ := fns [(10, [], e_laws_szContainer), (12, [], e_laws_toContainer), (11, [], e_spec_EqualContainers), (13, [], e_impl_EqualContainers), (14, [], e_laws_eqContainer)], loop := fun _ => none, cut := fun _ => none, deep := fun _ => false }
theorem c_laws_FnExactEqualContainers : Contract Try.prog 3 e_laws_FnExactEqualContainers.sig e_laws_FnExactEqualContainers.F :=
  den_is (E := v_laws_FnExactEqualContainers) ⟨tab_ti, tab_eq⟩ (fns_cons c_laws_szContainer (fns_cons c_laws_toContainer (fns_cons c_spec_EqualContainers (fns_cons c_impl_EqualContainers (fns_cons c_laws_eqContainer (fns_nil _)))))) mixed Try.func3 (by kernel_rfl) (by kernel_rfl) (fun x => by kernel_rfl)

theorem law_true (a : Tup (s_laws_FnExactEqualContainers.params.map PTy.den)) (hok : argsOk Try.prog s_laws_FnExactEqualContainers.params a) : D.laws_FnExactEqualContainers a.1 a.2 = some true := D.FnExactEqualContainers_true a.1 a.2 (Ty.ok_bd (P := Try.prog) (t := y26) (by kernel_rfl) hok.1) (Ty.ok_bd (P := Try.prog) (t := y26) (by kernel_rfl) hok.2.1)
theorem lifted (os : Os) (started : os.Started) (H : Type) (enc : TypeId × Value → H) :
    ReturnsInHanded {} Try.checked os 3 .any (Rows.fnExactEqualContainersSpec.pre6 enc Try.prog Try.f3 Rows.fnExactEqualContainersRow.domain false) (Rows.fnExactEqualContainersSpec.post enc Try.prog Try.f3 false true false false) := by
  refine returnsInHanded_of_change_sized (C := Try.checked) (by kernel_rfl) started (by kernel_rfl) Try.func3
    (ChangeSpec.witness6 (enc := enc) (C := Try.checked) false ⟨#[], #[.agg #[.slice none 0 0, .slice none 0 0, .slice none 0 0, .int .i64 0], .agg #[.slice none 0 0, .slice none 0 0, .slice none 0 0, .int .i64 0]], []⟩ 8 (by kernel_rfl) (by kernel_rfl) (by kernel_rfl) (by kernel_rfl)) ?_
  intro W base args ds gs before hval hW hcnd hsz _
  exact law_row (C := Try.checked) rfl c_laws_FnExactEqualContainers (N := 8) (by kernel_rfl) (tb := 4) (by kernel_rfl) (by kernel_rfl) (by kernel_rfl) (by kernel_rfl) rfl
    (fun ds h => by
      have h : ds.length = 2 := h
      match ds, h with
      | [d0, d1], _ => rfl)
    bulky_sizeOf (small := fun _ => True) (fun a ds hok _ _ => ⟨_, law_true a hok, rfl⟩) hval hW hsz trivial

theorem over : Rows.fnExactEqualContainersRow.holds Try.pinned (OpenSpec.ofChange Rows.fnExactEqualContainersSpec) :=
  OpenClaim.holds_of_wide 3 Try.f3 rfl rfl rfl rfl rfl rfl rfl ⟨rfl, rfl, rfl, rfl, rfl⟩ rfl rfl rfl rfl rfl (by kernel_rfl) Try.func3 (by kernel_rfl)
    (of_decide_eq_true (by kernel_rfl)) (by unfold Func.isWrapper; first | (rw [if_pos (by decide +kernel)]; kernel_rfl) | (rw [if_neg (by decide +kernel)]; exact ⟨rfl, rfl⟩))
    (fun os started H enc _ => lifted os started H enc)
end Go.Proofs.Ytfkjmehjofhoiaa.SxFnExactEqualContainers
namespace Go.Proofs.Ytfkjmehjofhoiaa
theorem fnExactEqualContainers_holds : Rows.FnExactEqualContainersSaid := SxFnExactEqualContainers.over
end Go.Proofs.Ytfkjmehjofhoiaa
