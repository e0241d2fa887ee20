/- FnExactIsEquivalent returns true for every input, and each input reads as it did. No condition. -/
import Derived.Test.YtfkjmehjofhoiaaRows
import Derived.Test.YtfkjmehjofhoiaaPuFnExactIsEquivalent
import Derived.WalkKit
import Derived.ProofKit
import Derived.ShutString
import Derived.SizedLaws
set_option linter.unusedVariables false
set_option maxRecDepth 100000
set_option maxHeartbeats 4000000
namespace Go.Proofs.Ytfkjmehjofhoiaa.SxFnExactIsEquivalent
open Go Go.Sh Go.RowKit
def y3 : Ty := .int .i64
def y4 : Ty := .bool
def y156 : Ty := .pair y3 (.pair y3 (.pair y3 y3))
def y22 : Ty := .slice 156 y156
def y100 : Ty := .pair y3 (.pair y3 y3)
def y162 : Ty := .pair y3 (.pair y100 y3)
def y23 : Ty := .slice 162 y162
def y117 : Ty := .pair y3 (.pair y3 (.pair y3 y3))
def y29 : Ty := .slice 117 y117
def y60 : Ty := .pair y3 (.pair y3 y3)
def y159 : Ty := .pair y3 (.pair y60 y3)
def y30 : Ty := .slice 159 y159
def y61 : Ty := .slice 3 y3
def y72 : Ty := .slice 61 y61
def y167 : Ty := .pair y3 (.pair y61 (.pair y61 y61))
def y171 : Ty := .pair y3 y60
def tab : List (TypeId × TI) := [(3, { size := 1, bytes := 8, agg := false, ty := some y3 }),
  (4, { size := 1, bytes := 1, agg := false, ty := some y4 }),
  (156, { size := 4, bytes := 32, agg := true, ty := some y156, fields := [(0, 3), (1, 3), (2, 3), (3, 3)] }),
  (22, { size := 1, bytes := 24, agg := false, ty := some y22, elem := some 156 }),
  (100, { size := 3, bytes := 24, agg := true, ty := some y100, fields := [(0, 3), (1, 3), (2, 3)] }),
  (162, { size := 5, bytes := 40, agg := true, ty := some y162, fields := [(0, 3), (1, 100), (4, 3)] }),
  (23, { size := 1, bytes := 24, agg := false, ty := some y23, elem := some 162 }),
  (117, { size := 4, bytes := 32, agg := true, ty := some y117, fields := [(0, 3), (1, 3), (2, 3), (3, 3)], eq := true }),
  (29, { size := 1, bytes := 24, agg := false, ty := some y29, elem := some 117 }),
  (60, { size := 3, bytes := 24, agg := true, ty := some y60, fields := [(0, 3), (1, 3), (2, 3)], eq := true }),
  (159, { size := 5, bytes := 40, agg := true, ty := some y159, fields := [(0, 3), (1, 60), (4, 3)], eq := true }),
  (30, { size := 1, bytes := 24, agg := false, ty := some y30, elem := some 159 }),
  (61, { size := 1, bytes := 24, agg := false, ty := some y61, elem := some 3 }),
  (72, { size := 1, bytes := 24, agg := false, ty := some y72, elem := some 61 }),
  (167, { size := 4, bytes := 80, agg := true, ty := some y167, fields := [(0, 3), (1, 61), (2, 61), (3, 61)] }),
  (171, { size := 4, bytes := 32, agg := true, ty := some y171, fields := [(0, 3), (1, 60)] })]
def look : List (TypeId × TI) → TypeId → Option TI
  | [], _ => none
  | (k, i) :: r, t => if Nat.beq t k = true then some i else look r t
theorem look_ok {P : Program} : ∀ {l : List (TypeId × TI)}, (l.all fun p => tiOk P p.1 p.2) = true → ∀ t i, look l t = some i → tiOk P t i = true
  | [], _, t, i, h => by simp [look] at h
  | (k, j) :: r, h0, t, i, h => by
    simp only [List.all_cons, Bool.and_eq_true] at h0
    simp only [look] at h
    split at h
    · rename_i hk
      simp only [Option.some.injEq] at h
      have := Nat.eq_of_beq_eq_true hk
      subst this; subst h; exact h0.1
    · exact look_ok h0.2 t i h
theorem look_eq {P : Program} : ∀ {l : List (TypeId × TI)}, (l.all fun p => !p.2.eq || eqTop P p.1 p.2.ty) = true → ∀ t i, look l t = some i → i.eq = true → ∀ ty, i.ty = some ty → EqLaw P t ty.zero
  | [], _, t, i, h => by simp [look] at h
  | (k, j) :: r, h0, t, i, h => by
    simp only [List.all_cons, Bool.and_eq_true, Bool.or_eq_true, Bool.not_eq_true'] at h0
    simp only [look] at h
    split at h
    · rename_i hk
      simp only [Option.some.injEq] at h
      have := Nat.eq_of_beq_eq_true hk
      subst this; subst h
      intro he
      exact eqLaw_of (h0.1.resolve_left (by simp [he]))
    · exact look_eq h0.2 t i h
def same : List Nat → List Nat → Bool
  | [], [] => true
  | a :: x, b :: y => Nat.beq a b && same x y
  | _, _ => false
theorem same_eq : ∀ {x y : List Nat}, same x y = true → x = y
  | [], [], _ => rfl
  | a :: x, b :: y, h => by
    simp only [same, Bool.and_eq_true] at h
    rw [Nat.eq_of_beq_eq_true h.1, same_eq h.2]
  | [], _ :: _, h => by simp [same] at h
  | _ :: _, [], h => by simp [same] at h
def fns : List (FuncId × List FuncId × Entry) → FuncId → List FuncId → Option Entry
  | [], _, _ => none
  | (k, c, e) :: r, f, fs => if (Nat.beq f k && same fs c) = true then some e else fns r f fs
theorem fns_nil (P : Program) : ∀ f fs en, fns [] f fs = some en → Contract P f en.sig en.F := fun f fs en h => by simp [fns] at h
theorem fns_cons {P : Program} {k : FuncId} {c : List FuncId} {e : Entry} {r : List (FuncId × List FuncId × Entry)} (hk : Contract P k e.sig e.F) (hr : ∀ f fs en, fns r f fs = some en → Contract P f en.sig en.F) : ∀ f fs en, fns ((k, c, e) :: r) f fs = some en → Contract P f en.sig en.F := fun f fs en h => by
  simp only [fns] at h
  split at h
  · rename_i hf
    simp only [Bool.and_eq_true] at hf
    simp only [Option.some.injEq] at h
    have := Nat.eq_of_beq_eq_true hf.1
    subst this; subst h; exact hk
  · exact hr f fs en h

theorem tab_ti : ∀ t i, look tab t = some i → tiOk Try.prog t i = true := look_ok (by kernel_rfl)
theorem tab_eq : ∀ t i, look tab t = some i → i.eq = true → ∀ ty, i.ty = some ty → EqLaw Try.prog t ty.zero := look_eq (by kernel_rfl)
theorem mixed : Try.prog.follows .mixedOrders = true := by kernel_rfl
def s_laws_szOpS : Sig := { params := [.val false y22, .val false y3], res := [.val false y3] }
noncomputable def e_laws_szOpS : Entry := ⟨s_laws_szOpS, fun a => D.laws_szOpS a.1 a.2⟩
noncomputable def v_laws_szOpS : Env := { ti := look tab, Γ := fns [], loop := fun _ => none, cut := fun _ => none, deep := fun _ => false }
theorem c_laws_szOpS : Contract Try.prog 36 e_laws_szOpS.sig e_laws_szOpS.F :=
  den_is (E := v_laws_szOpS) ⟨tab_ti, tab_eq⟩ (fns_nil _) mixed Try.func36 (by kernel_rfl) (by kernel_rfl) (fun x => by kernel_rfl)

def s_laws_szIntS : Sig := { params := [.val false y61, .val false y3], res := [.val false y3] }
noncomputable def e_laws_szIntS : Entry := ⟨s_laws_szIntS, fun a => D.laws_szIntS a.1 a.2⟩
noncomputable def v_laws_szIntS : Env := { ti := look tab, Γ := fns [], loop := fun _ => none, cut := fun _ => none, deep := fun _ => false }
theorem c_laws_szIntS : Contract Try.prog 106 e_laws_szIntS.sig e_laws_szIntS.F :=
  den_is (E := v_laws_szIntS) ⟨tab_ti, tab_eq⟩ (fns_nil _) mixed Try.func106 (by kernel_rfl) (by kernel_rfl) (fun x => by kernel_rfl)

def s_laws_szIntSS : Sig := { params := [.val false y72, .val false y3], res := [.val false y3] }
noncomputable def e_laws_szIntSS : Entry := ⟨s_laws_szIntSS, fun a => D.laws_szIntSS a.1 a.2⟩
noncomputable def v_laws_szIntSS : Env := { ti := look tab, Γ := fns [(106, [], e_laws_szIntS)], loop := fun b => match b with | 0 => some [.slot 1 (.int .i64), .slot 5 (.int .i64)] | _ => none, cut := fun _ => none, deep := fun _ => false }
theorem c_laws_szIntSS : Contract Try.prog 37 e_laws_szIntSS.sig e_laws_szIntSS.F :=
  den_is (E := v_laws_szIntSS) ⟨tab_ti, tab_eq⟩ (fns_cons c_laws_szIntS (fns_nil _)) mixed Try.func37 (by kernel_rfl) (by kernel_rfl) (fun x => by kernel_rfl)

def s_laws_szEntryS : Sig := { params := [.val false y23, .val false y3], res := [.val false y3] }
noncomputable def e_laws_szEntryS : Entry := ⟨s_laws_szEntryS, fun a => D.laws_szEntryS a.1 a.2⟩
noncomputable def v_laws_szEntryS : Env := { ti := look tab, Γ := fns [], loop := fun _ => none, cut := fun _ => none, deep := fun _ => false }
theorem c_laws_szEntryS : Contract Try.prog 38 e_laws_szEntryS.sig e_laws_szEntryS.F :=
  den_is (E := v_laws_szEntryS) ⟨tab_ti, tab_eq⟩ (fns_nil _) mixed Try.func38 (by kernel_rfl) (by kernel_rfl) (fun x => by kernel_rfl)

def s_laws_toOp : Sig := { params := [.val true y156], res := [.val true y117] }
noncomputable def e_laws_toOp : Entry := ⟨s_laws_toOp, fun a => D.laws_toOp a⟩
noncomputable def v_laws_toOp : Env := { ti := look tab, Γ := fns [], loop := fun _ => none, cut := fun _ => none, deep := fun _ => false }
theorem c_laws_toOp : Contract Try.prog 107 e_laws_toOp.sig e_laws_toOp.F :=
  den_is (E := v_laws_toOp) ⟨tab_ti, tab_eq⟩ (fns_nil _) mixed Try.func107 (by kernel_rfl) (by kernel_rfl) (fun x => by kernel_rfl)

def s_laws_toOpS : Sig := { params := [.val false y22], res := [.row 117 y117 false] }
noncomputable def e_laws_toOpS : Entry := ⟨s_laws_toOpS, fun a => D.laws_toOpS a⟩
noncomputable def v_laws_toOpS : Env := { ti := look tab, Γ := fns [(107, [], e_laws_toOp)], loop := fun b => match b with | 0 => some [.slot 4 (.int .i64), .vec 3 117 y117 false] | _ => none, cut := fun _ => none, deep := fun _ => false }
theorem c_laws_toOpS : Contract Try.prog 40 e_laws_toOpS.sig e_laws_toOpS.F :=
  den_is (E := v_laws_toOpS) ⟨tab_ti, tab_eq⟩ (fns_cons c_laws_toOp (fns_nil _)) mixed Try.func40 (by kernel_rfl) (by kernel_rfl) (fun x => by kernel_rfl)

def s_laws_toIntS : Sig := { params := [.val false y61], res := [.row 3 y3 false] }
noncomputable def e_laws_toIntS : Entry := ⟨s_laws_toIntS, fun a => D.laws_toIntS a⟩
noncomputable def v_laws_toIntS : Env := { ti := look tab, Γ := fns [], loop := fun b => match b with | 0 => some [.slot 4 (.int .i64), .vec 3 3 y3 false] | _ => none, cut := fun _ => none, deep := fun _ => false }
theorem c_laws_toIntS : Contract Try.prog 108 e_laws_toIntS.sig e_laws_toIntS.F :=
  den_is (E := v_laws_toIntS) ⟨tab_ti, tab_eq⟩ (fns_nil _) mixed Try.func108 (by kernel_rfl) (by kernel_rfl) (fun x => by kernel_rfl)

def s_laws_toIntSS : Sig := { params := [.val false y72], res := [.row 61 y61 false] }
noncomputable def e_laws_toIntSS : Entry := ⟨s_laws_toIntSS, fun a => D.laws_toIntSS a⟩
noncomputable def v_laws_toIntSS : Env := { ti := look tab, Γ := fns [(108, [], e_laws_toIntS)], loop := fun b => match b with | 0 => some [.slot 4 (.int .i64), .vec 3 61 y61 false] | _ => none, cut := fun _ => none, deep := fun _ => false }
theorem c_laws_toIntSS : Contract Try.prog 41 e_laws_toIntSS.sig e_laws_toIntSS.F :=
  den_is (E := v_laws_toIntSS) ⟨tab_ti, tab_eq⟩ (fns_cons c_laws_toIntS (fns_nil _)) mixed Try.func41 (by kernel_rfl) (by kernel_rfl) (fun x => by kernel_rfl)

def s_laws_toAddress : Sig := { params := [.val true y100], res := [.val true y60] }
noncomputable def e_laws_toAddress : Entry := ⟨s_laws_toAddress, fun a => D.laws_toAddress a⟩
noncomputable def v_laws_toAddress : Env := { ti := look tab, Γ := fns [], loop := fun _ => none, cut := fun _ => none, deep := fun _ => false }
theorem c_laws_toAddress : Contract Try.prog 61 e_laws_toAddress.sig e_laws_toAddress.F :=
  den_is (E := v_laws_toAddress) ⟨tab_ti, tab_eq⟩ (fns_nil _) mixed Try.func61 (by kernel_rfl) (by kernel_rfl) (fun x => by kernel_rfl)

def s_laws_toEntry : Sig := { params := [.val true y162], res := [.val true y159] }
noncomputable def e_laws_toEntry : Entry := ⟨s_laws_toEntry, fun a => D.laws_toEntry a⟩
noncomputable def v_laws_toEntry : Env := { ti := look tab, Γ := fns [(61, [], e_laws_toAddress)], loop := fun _ => none, cut := fun _ => none, deep := fun _ => false }
theorem c_laws_toEntry : Contract Try.prog 109 e_laws_toEntry.sig e_laws_toEntry.F :=
  den_is (E := v_laws_toEntry) ⟨tab_ti, tab_eq⟩ (fns_cons c_laws_toAddress (fns_nil _)) mixed Try.func109 (by kernel_rfl) (by kernel_rfl) (fun x => by kernel_rfl)

def s_laws_toEntryS : Sig := { params := [.val false y23], res := [.row 159 y159 false] }
noncomputable def e_laws_toEntryS : Entry := ⟨s_laws_toEntryS, fun a => D.laws_toEntryS a⟩
noncomputable def v_laws_toEntryS : Env := { ti := look tab, Γ := fns [(109, [], e_laws_toEntry)], loop := fun b => match b with | 0 => some [.slot 4 (.int .i64), .vec 3 159 y159 false] | _ => none, cut := fun _ => none, deep := fun _ => false }
theorem c_laws_toEntryS : Contract Try.prog 42 e_laws_toEntryS.sig e_laws_toEntryS.F :=
  den_is (E := v_laws_toEntryS) ⟨tab_ti, tab_eq⟩ (fns_cons c_laws_toEntry (fns_nil _)) mixed Try.func42 (by kernel_rfl) (by kernel_rfl) (fun x => by kernel_rfl)

def s_spec_l1In : Sig := { params := [.val false y3, .val false y3, .val false y3], res := [.val false y4] }
noncomputable def e_spec_l1In : Entry := ⟨s_spec_l1In, fun a => D.spec_l1In a.1 a.2.1 a.2.2⟩
noncomputable def v_spec_l1In : Env := { ti := look tab, Γ := fns [], loop := fun _ => none, cut := fun _ => none, deep := fun _ => false }
theorem c_spec_l1In : Contract Try.prog 126 e_spec_l1In.sig e_spec_l1In.F :=
  den_is (E := v_spec_l1In) ⟨tab_ti, tab_eq⟩ (fns_nil _) mixed Try.func126 (by kernel_rfl) (by kernel_rfl) (fun x => by kernel_rfl)

def s_spec_l10Ok : Sig := { params := [.val true y117], res := [.val false y4] }
noncomputable def e_spec_l10Ok : Entry := ⟨s_spec_l10Ok, fun a => D.spec_l10Ok a⟩
noncomputable def v_spec_l10Ok : Env := { ti := look tab, Γ := fns [(126, [], e_spec_l1In)], loop := fun _ => none, cut := fun _ => none, deep := fun _ => false }
theorem c_spec_l10Ok : Contract Try.prog 161 e_spec_l10Ok.sig e_spec_l10Ok.F :=
  den_is (E := v_spec_l10Ok) ⟨tab_ti, tab_eq⟩ (fns_cons c_spec_l1In (fns_nil _)) mixed Try.func161 (by kernel_rfl) (by kernel_rfl) (fun x => by kernel_rfl)

def s_spec_IsScript : Sig := { params := [.val false y29], res := [.val false y4] }
noncomputable def e_spec_IsScript : Entry := ⟨s_spec_IsScript, fun a => D.spec_IsScript a⟩
noncomputable def v_spec_IsScript : Env := { ti := look tab, Γ := fns [(161, [], e_spec_l10Ok)], loop := fun b => match b with | 0 => some [.slot 3 (.int .i64)] | _ => none, cut := fun _ => none, deep := fun _ => false }
theorem c_spec_IsScript : Contract Try.prog 113 e_spec_IsScript.sig e_spec_IsScript.F :=
  den_is (E := v_spec_IsScript) ⟨tab_ti, tab_eq⟩ (fns_cons c_spec_l10Ok (fns_nil _)) mixed Try.func113 (by kernel_rfl) (by kernel_rfl) (fun x => by kernel_rfl)

def s_spec_l11Zeros : Sig := { params := [.val false y3], res := [.row 3 y3 false] }
noncomputable def e_spec_l11Zeros : Entry := ⟨s_spec_l11Zeros, fun a => D.spec_l11Zeros a⟩
noncomputable def v_spec_l11Zeros : Env := { ti := look tab, Γ := fns [], loop := fun b => match b with | 0 => some [.slot 3 (.own 3 y3 false), .slot 4 (.int .i64)] | _ => none, cut := fun _ => none, deep := fun _ => false }
theorem c_spec_l11Zeros : Contract Try.prog 162 e_spec_l11Zeros.sig e_spec_l11Zeros.F :=
  den_is (E := v_spec_l11Zeros) ⟨tab_ti, tab_eq⟩ (fns_nil _) mixed Try.func162 (by kernel_rfl) (by kernel_rfl) (fun x => by kernel_rfl)

def s_spec_StartState : Sig := { params := [], res := [.val false y3, .row 3 y3 false, .row 3 y3 false, .row 3 y3 false], rgroups := [some 4] }
noncomputable def e_spec_StartState : Entry := ⟨s_spec_StartState, fun _ => D.spec_StartState⟩
noncomputable def v_spec_StartState : Env := { ti := look tab, Γ := fns [(162, [], e_spec_l11Zeros)], loop := fun _ => none, cut := fun _ => none, deep := fun _ => false }
theorem c_spec_StartState : Contract Try.prog 114 e_spec_StartState.sig e_spec_StartState.F :=
  den_is (E := v_spec_StartState) ⟨tab_ti, tab_eq⟩ (fns_cons c_spec_l11Zeros (fns_nil _)) mixed Try.func114 (by kernel_rfl) (by kernel_rfl) (fun x => by kernel_rfl)

def s_spec_IsDone : Sig := { params := [.val false y29, .val true y167], res := [.val false y4] }
noncomputable def e_spec_IsDone : Entry := ⟨s_spec_IsDone, fun a => D.spec_IsDone a.1 a.2⟩
noncomputable def v_spec_IsDone : Env := { ti := look tab, Γ := fns [], loop := fun _ => none, cut := fun _ => none, deep := fun _ => false }
theorem c_spec_IsDone : Contract Try.prog 115 e_spec_IsDone.sig e_spec_IsDone.F :=
  den_is (E := v_spec_IsDone) ⟨tab_ti, tab_eq⟩ (fns_nil _) mixed Try.func115 (by kernel_rfl) (by kernel_rfl) (fun x => by kernel_rfl)

def s_spec_l11All : Sig := { params := [.val false y61, .val false y3], res := [.val false y4] }
noncomputable def e_spec_l11All : Entry := ⟨s_spec_l11All, fun a => D.spec_l11All a.1 a.2⟩
noncomputable def v_spec_l11All : Env := { ti := look tab, Γ := fns [(126, [], e_spec_l1In)], loop := fun b => match b with | 0 => some [.slot 5 (.int .i64)] | _ => none, cut := fun _ => none, deep := fun _ => false }
theorem c_spec_l11All : Contract Try.prog 201 e_spec_l11All.sig e_spec_l11All.F :=
  den_is (E := v_spec_l11All) ⟨tab_ti, tab_eq⟩ (fns_cons c_spec_l1In (fns_nil _)) mixed Try.func201 (by kernel_rfl) (by kernel_rfl) (fun x => by kernel_rfl)

def s_spec_IsState : Sig := { params := [.val true y167], res := [.val false y4] }
noncomputable def e_spec_IsState : Entry := ⟨s_spec_IsState, fun a => D.spec_IsState a⟩
noncomputable def v_spec_IsState : Env := { ti := look tab, Γ := fns [(126, [], e_spec_l1In), (201, [], e_spec_l11All)], loop := fun _ => none, cut := fun _ => none, deep := fun _ => false }
theorem c_spec_IsState : Contract Try.prog 189 e_spec_IsState.sig e_spec_IsState.F :=
  den_is (E := v_spec_IsState) ⟨tab_ti, tab_eq⟩ (fns_cons c_spec_l1In (fns_cons c_spec_l11All (fns_nil _))) mixed Try.func189 (by kernel_rfl) (by kernel_rfl) (fun x => by kernel_rfl)

def s_spec_l11Can : Sig := { params := [.val false y29, .val true y167], res := [.val false y4] }
noncomputable def e_spec_l11Can : Entry := ⟨s_spec_l11Can, fun a => D.spec_l11Can a.1 a.2⟩
noncomputable def v_spec_l11Can : Env := { ti := look tab, Γ := fns [(113, [], e_spec_IsScript), (189, [], e_spec_IsState)], loop := fun _ => none, cut := fun _ => none, deep := fun _ => false }
theorem c_spec_l11Can : Contract Try.prog 163 e_spec_l11Can.sig e_spec_l11Can.F :=
  den_is (E := v_spec_l11Can) ⟨tab_ti, tab_eq⟩ (fns_cons c_spec_IsScript (fns_cons c_spec_IsState (fns_nil _))) mixed Try.func163 (by kernel_rfl) (by kernel_rfl) (fun x => by kernel_rfl)

def s_spec_Asks : Sig := { params := [.val false y3], res := [.val false y4] }
noncomputable def e_spec_Asks : Entry := ⟨s_spec_Asks, fun a => D.spec_Asks a⟩
noncomputable def v_spec_Asks : Env := { ti := look tab, Γ := fns [(126, [], e_spec_l1In)], loop := fun _ => none, cut := fun _ => none, deep := fun _ => false }
theorem c_spec_Asks : Contract Try.prog 164 e_spec_Asks.sig e_spec_Asks.F :=
  den_is (E := v_spec_Asks) ⟨tab_ti, tab_eq⟩ (fns_cons c_spec_l1In (fns_nil _)) mixed Try.func164 (by kernel_rfl) (by kernel_rfl) (fun x => by kernel_rfl)

def s_spec_WantOf : Sig := { params := [.val false y29, .val true y167], res := [.val true y171] }
noncomputable def e_spec_WantOf : Entry := ⟨s_spec_WantOf, fun a => D.spec_WantOf a.1 a.2⟩
noncomputable def v_spec_WantOf : Env := { ti := look tab, Γ := fns [(163, [], e_spec_l11Can), (164, [], e_spec_Asks)], loop := fun _ => none, cut := fun _ => none, deep := fun _ => false }
theorem c_spec_WantOf : Contract Try.prog 116 e_spec_WantOf.sig e_spec_WantOf.F :=
  den_is (E := v_spec_WantOf) ⟨tab_ti, tab_eq⟩ (fns_cons c_spec_l11Can (fns_cons c_spec_Asks (fns_nil _))) mixed Try.func116 (by kernel_rfl) (by kernel_rfl) (fun x => by kernel_rfl)

def s_spec_l11Copy : Sig := { params := [.val true y167], res := [.val false y3, .row 3 y3 false, .row 3 y3 false, .row 3 y3 false], rgroups := [some 4] }
noncomputable def e_spec_l11Copy : Entry := ⟨s_spec_l11Copy, fun a => D.spec_l11Copy a⟩
noncomputable def v_spec_l11Copy : Env := { ti := look tab, Γ := fns [], loop := fun _ => none, cut := fun _ => none, deep := fun _ => false }
theorem c_spec_l11Copy : Contract Try.prog 165 e_spec_l11Copy.sig e_spec_l11Copy.F :=
  den_is (E := v_spec_l11Copy) ⟨tab_ti, tab_eq⟩ (fns_nil _) mixed Try.func165 (by kernel_rfl) (by kernel_rfl) (fun x => by kernel_rfl)

def s_spec_Min : Sig := { params := [.val false y3, .val false y3], res := [.val false y3] }
noncomputable def e_spec_Min : Entry := ⟨s_spec_Min, fun a => D.spec_Min a.1 a.2⟩
noncomputable def v_spec_Min : Env := { ti := look tab, Γ := fns [], loop := fun _ => none, cut := fun _ => none, deep := fun _ => false }
theorem c_spec_Min : Contract Try.prog 167 e_spec_Min.sig e_spec_Min.F :=
  den_is (E := v_spec_Min) ⟨tab_ti, tab_eq⟩ (fns_nil _) mixed Try.func167 (by kernel_rfl) (by kernel_rfl) (fun x => by kernel_rfl)

def s_spec_Max : Sig := { params := [.val false y3, .val false y3], res := [.val false y3] }
noncomputable def e_spec_Max : Entry := ⟨s_spec_Max, fun a => D.spec_Max a.1 a.2⟩
noncomputable def v_spec_Max : Env := { ti := look tab, Γ := fns [], loop := fun _ => none, cut := fun _ => none, deep := fun _ => false }
theorem c_spec_Max : Contract Try.prog 166 e_spec_Max.sig e_spec_Max.F :=
  den_is (E := v_spec_Max) ⟨tab_ti, tab_eq⟩ (fns_nil _) mixed Try.func166 (by kernel_rfl) (by kernel_rfl) (fun x => by kernel_rfl)

def s_spec_StepState : Sig := { params := [.val false y29, .val true y167, .val false y3], res := [.val false y3, .row 3 y3 false, .row 3 y3 false, .row 3 y3 false], rgroups := [some 4] }
noncomputable def e_spec_StepState : Entry := ⟨s_spec_StepState, fun a => D.spec_StepState a.1 a.2.1 a.2.2⟩
noncomputable def v_spec_StepState : Env := { ti := look tab, Γ := fns [(165, [], e_spec_l11Copy), (163, [], e_spec_l11Can), (167, [], e_spec_Min), (166, [], e_spec_Max)], loop := fun _ => none, cut := fun _ => none, deep := fun _ => false }
theorem c_spec_StepState : Contract Try.prog 117 e_spec_StepState.sig e_spec_StepState.F :=
  den_is (E := v_spec_StepState) ⟨tab_ti, tab_eq⟩ (fns_cons c_spec_l11Copy (fns_cons c_spec_l11Can (fns_cons c_spec_Min (fns_cons c_spec_Max (fns_nil _))))) mixed Try.func117 (by kernel_rfl) (by kernel_rfl) (fun x => by kernel_rfl)

def s_spec_IsAddress : Sig := { params := [.val true y60], res := [.val false y4] }
noncomputable def e_spec_IsAddress : Entry := ⟨s_spec_IsAddress, fun a => D.spec_IsAddress a⟩
noncomputable def v_spec_IsAddress : Env := { ti := look tab, Γ := fns [(126, [], e_spec_l1In)], loop := fun _ => none, cut := fun _ => none, deep := fun _ => false }
theorem c_spec_IsAddress : Contract Try.prog 168 e_spec_IsAddress.sig e_spec_IsAddress.F :=
  den_is (E := v_spec_IsAddress) ⟨tab_ti, tab_eq⟩ (fns_cons c_spec_l1In (fns_nil _)) mixed Try.func168 (by kernel_rfl) (by kernel_rfl) (fun x => by kernel_rfl)

def s_spec_AreEntries : Sig := { params := [.val false y30], res := [.val false y4] }
noncomputable def e_spec_AreEntries : Entry := ⟨s_spec_AreEntries, fun a => D.spec_AreEntries a⟩
noncomputable def v_spec_AreEntries : Env := { ti := look tab, Γ := fns [(164, [], e_spec_Asks), (126, [], e_spec_l1In), (168, [], e_spec_IsAddress)], loop := fun b => match b with | 0 => some [.slot 3 (.int .i64)] | _ => none, cut := fun _ => none, deep := fun _ => false }
theorem c_spec_AreEntries : Contract Try.prog 118 e_spec_AreEntries.sig e_spec_AreEntries.F :=
  den_is (E := v_spec_AreEntries) ⟨tab_ti, tab_eq⟩ (fns_cons c_spec_Asks (fns_cons c_spec_l1In (fns_cons c_spec_IsAddress (fns_nil _)))) mixed Try.func118 (by kernel_rfl) (by kernel_rfl) (fun x => by kernel_rfl)

def s_spec_Migrate : Sig := { params := [.val false y29, .val false y72], res := [.row 159 y159 false, .val false y4] }
noncomputable def e_spec_Migrate : Entry := ⟨s_spec_Migrate, fun a => D.spec_Migrate a.1 a.2⟩
noncomputable def v_spec_Migrate : Env := { ti := look tab, Γ := fns [(113, [], e_spec_IsScript), (114, [], e_spec_StartState), (115, [], e_spec_IsDone), (116, [], e_spec_WantOf), (117, [], e_spec_StepState), (118, [], e_spec_AreEntries)], loop := fun b => match b with | 0 => some [.slot 6 (.own 159 y159 false), .box 7 [.int .i64, .own 3 y3 false, .own 3 y3 false, .own 3 y3 false]] | _ => none, cut := fun _ => none, deep := fun _ => false }
theorem c_spec_Migrate : Contract Try.prog 47 e_spec_Migrate.sig e_spec_Migrate.F :=
  den_is (E := v_spec_Migrate) ⟨tab_ti, tab_eq⟩ (fns_cons c_spec_IsScript (fns_cons c_spec_StartState (fns_cons c_spec_IsDone (fns_cons c_spec_WantOf (fns_cons c_spec_StepState (fns_cons c_spec_AreEntries (fns_nil _))))))) mixed Try.func47 (by kernel_rfl) (by kernel_rfl) (fun x => by kernel_rfl)

def s_spec_EqualEntries : Sig := { params := [.val false y30, .val false y30], res := [.val false y4] }
noncomputable def e_spec_EqualEntries : Entry := ⟨s_spec_EqualEntries, fun a => D.spec_EqualEntries a.1 a.2⟩
noncomputable def v_spec_EqualEntries : Env := { ti := look tab, Γ := fns [], loop := fun b => match b with | 0 => some [.slot 5 (.int .i64)] | _ => none, cut := fun _ => none, deep := fun _ => false }
theorem c_spec_EqualEntries : Contract Try.prog 70 e_spec_EqualEntries.sig e_spec_EqualEntries.F :=
  den_is (E := v_spec_EqualEntries) ⟨tab_ti, tab_eq⟩ (fns_nil _) mixed Try.func70 (by kernel_rfl) (by kernel_rfl) (fun x => by kernel_rfl)

def s_spec_IsEquivalent : Sig := { params := [.val false y29, .val false y72, .val false y30], res := [.val false y4] }
noncomputable def e_spec_IsEquivalent : Entry := ⟨s_spec_IsEquivalent, fun a => D.spec_IsEquivalent a.1 a.2.1 a.2.2⟩
noncomputable def v_spec_IsEquivalent : Env := { ti := look tab, Γ := fns [(47, [], e_spec_Migrate), (70, [], e_spec_EqualEntries)], loop := fun _ => none, cut := fun _ => none, deep := fun _ => false }
theorem c_spec_IsEquivalent : Contract Try.prog 39 e_spec_IsEquivalent.sig e_spec_IsEquivalent.F :=
  den_is (E := v_spec_IsEquivalent) ⟨tab_ti, tab_eq⟩ (fns_cons c_spec_Migrate (fns_cons c_spec_EqualEntries (fns_nil _))) mixed Try.func39 (by kernel_rfl) (by kernel_rfl) (fun x => by kernel_rfl)

def s_impl_at : Sig := { params := [.val false y3, .val false y3], res := [.val false y4] }
noncomputable def e_impl_at : Entry := ⟨s_impl_at, fun a => D.impl_at a.1 a.2⟩
noncomputable def v_impl_at : Env := { ti := look tab, Γ := fns [], loop := fun _ => none, cut := fun _ => none, deep := fun _ => false }
theorem c_impl_at : Contract Try.prog 191 e_impl_at.sig e_impl_at.F :=
  den_is (E := v_impl_at) ⟨tab_ti, tab_eq⟩ (fns_nil _) mixed Try.func191 (by kernel_rfl) (by kernel_rfl) (fun x => by kernel_rfl)

def s_impl_InRange : Sig := { params := [.val false y3, .val false y3, .val false y3], res := [.val false y4] }
noncomputable def e_impl_InRange : Entry := ⟨s_impl_InRange, fun a => D.impl_InRange a.1 a.2.1 a.2.2⟩
noncomputable def v_impl_InRange : Env := { ti := look tab, Γ := fns [], loop := fun _ => none, cut := fun _ => none, deep := fun _ => false }
theorem c_impl_InRange : Contract Try.prog 91 e_impl_InRange.sig e_impl_InRange.F :=
  den_is (E := v_impl_InRange) ⟨tab_ti, tab_eq⟩ (fns_nil _) mixed Try.func91 (by kernel_rfl) (by kernel_rfl) (fun x => by kernel_rfl)

def s_impl_isOp : Sig := { params := [.val true y117], res := [.val false y4] }
noncomputable def e_impl_isOp : Entry := ⟨s_impl_isOp, fun a => D.impl_isOp a⟩
noncomputable def v_impl_isOp : Env := { ti := look tab, Γ := fns [(191, [], e_impl_at), (91, [], e_impl_InRange)], loop := fun _ => none, cut := fun _ => none, deep := fun _ => false }
theorem c_impl_isOp : Contract Try.prog 171 e_impl_isOp.sig e_impl_isOp.F :=
  den_is (E := v_impl_isOp) ⟨tab_ti, tab_eq⟩ (fns_cons c_impl_at (fns_cons c_impl_InRange (fns_nil _))) mixed Try.func171 (by kernel_rfl) (by kernel_rfl) (fun x => by kernel_rfl)

def s_impl_IsScript_1 : Sig := { params := [.val true y117], res := [.val false y4] }
noncomputable def e_impl_IsScript_1 : Entry := ⟨s_impl_IsScript_1, fun a => D.impl_IsScript_1 a⟩
noncomputable def v_impl_IsScript_1 : Env := { ti := look tab, Γ := fns [(171, [], e_impl_isOp)], loop := fun _ => none, cut := fun _ => none, deep := fun _ => false }
theorem c_impl_IsScript_1 : Contract Try.prog 170 e_impl_IsScript_1.sig e_impl_IsScript_1.F :=
  den_is (E := v_impl_IsScript_1) ⟨tab_ti, tab_eq⟩ (fns_cons c_impl_isOp (fns_nil _)) mixed Try.func170 (by kernel_rfl) (by kernel_rfl) (fun x => by kernel_rfl)

def s_slices_IndexFunc_Op_impl_IsScript_1 : Sig := { params := [.val false y29, .fn 170 []], res := [.val false y3] }
noncomputable def e_slices_IndexFunc_Op_impl_IsScript_1 : Entry := ⟨s_slices_IndexFunc_Op_impl_IsScript_1, fun a => D.slices_IndexFunc_Op_impl_IsScript_1 a.1⟩
noncomputable def v_slices_IndexFunc_Op_impl_IsScript_1 : Env := { ti := look tab, Γ := fns [(170, [], e_impl_IsScript_1)], loop := fun b => match b with | 0 => some [.slot 8 (.int .i64)] | _ => none, cut := fun _ => none, deep := fun _ => false }
theorem c_slices_IndexFunc_Op_impl_IsScript_1 : Contract Try.prog 190 e_slices_IndexFunc_Op_impl_IsScript_1.sig e_slices_IndexFunc_Op_impl_IsScript_1.F :=
  den_is (E := v_slices_IndexFunc_Op_impl_IsScript_1) ⟨tab_ti, tab_eq⟩ (fns_cons c_impl_IsScript_1 (fns_nil _)) mixed Try.func190 (by kernel_rfl) (by kernel_rfl) (fun x => by kernel_rfl)

def s_slices_ContainsFunc_Op_impl_IsScript_1 : Sig := { params := [.val false y29, .fn 170 []], res := [.val false y4] }
noncomputable def e_slices_ContainsFunc_Op_impl_IsScript_1 : Entry := ⟨s_slices_ContainsFunc_Op_impl_IsScript_1, fun a => D.slices_ContainsFunc_Op_impl_IsScript_1 a.1⟩
noncomputable def v_slices_ContainsFunc_Op_impl_IsScript_1 : Env := { ti := look tab, Γ := fns [(190, [170], e_slices_IndexFunc_Op_impl_IsScript_1)], loop := fun _ => none, cut := fun _ => none, deep := fun _ => false }
theorem c_slices_ContainsFunc_Op_impl_IsScript_1 : Contract Try.prog 169 e_slices_ContainsFunc_Op_impl_IsScript_1.sig e_slices_ContainsFunc_Op_impl_IsScript_1.F :=
  den_is (E := v_slices_ContainsFunc_Op_impl_IsScript_1) ⟨tab_ti, tab_eq⟩ (fns_cons c_slices_IndexFunc_Op_impl_IsScript_1 (fns_nil _)) mixed Try.func169 (by kernel_rfl) (by kernel_rfl) (fun x => by kernel_rfl)

def s_impl_IsScript : Sig := { params := [.val false y29], res := [.val false y4] }
noncomputable def e_impl_IsScript : Entry := ⟨s_impl_IsScript, fun a => D.impl_IsScript a⟩
noncomputable def v_impl_IsScript : Env := { ti := look tab, Γ := fns [(169, [170], e_slices_ContainsFunc_Op_impl_IsScript_1)], loop := fun _ => none, cut := fun _ => none, deep := fun _ => false }
theorem c_impl_IsScript : Contract Try.prog 119 e_impl_IsScript.sig e_impl_IsScript.F :=
  den_is (E := v_impl_IsScript) ⟨tab_ti, tab_eq⟩ (fns_cons c_slices_ContainsFunc_Op_impl_IsScript_1 (fns_nil _)) mixed Try.func119 (by kernel_rfl) (by kernel_rfl) (fun x => by kernel_rfl)

def s_impl_StartState : Sig := { params := [], res := [.val false y3, .row 3 y3 false, .row 3 y3 false, .row 3 y3 false], rgroups := [some 4] }
noncomputable def e_impl_StartState : Entry := ⟨s_impl_StartState, fun _ => D.impl_StartState⟩
noncomputable def v_impl_StartState : Env := { ti := look tab, Γ := fns [], loop := fun _ => none, cut := fun _ => none, deep := fun _ => false }
theorem c_impl_StartState : Contract Try.prog 120 e_impl_StartState.sig e_impl_StartState.F :=
  den_is (E := v_impl_StartState) ⟨tab_ti, tab_eq⟩ (fns_nil _) mixed Try.func120 (by kernel_rfl) (by kernel_rfl) (fun x => by kernel_rfl)

def s_impl_IsDone : Sig := { params := [.val false y29, .val true y167], res := [.val false y4] }
noncomputable def e_impl_IsDone : Entry := ⟨s_impl_IsDone, fun a => D.impl_IsDone a.1 a.2⟩
noncomputable def v_impl_IsDone : Env := { ti := look tab, Γ := fns [], loop := fun _ => none, cut := fun _ => none, deep := fun _ => false }
theorem c_impl_IsDone : Contract Try.prog 121 e_impl_IsDone.sig e_impl_IsDone.F :=
  den_is (E := v_impl_IsDone) ⟨tab_ti, tab_eq⟩ (fns_nil _) mixed Try.func121 (by kernel_rfl) (by kernel_rfl) (fun x => by kernel_rfl)

def s_impl_allIn : Sig := { params := [.val false y61, .val false y3, .val false y3], res := [.val false y4] }
noncomputable def e_impl_allIn : Entry := ⟨s_impl_allIn, fun a => D.impl_allIn a.1 a.2.1 a.2.2⟩
noncomputable def v_impl_allIn : Env := { ti := look tab, Γ := fns [(91, [], e_impl_InRange)], loop := fun b => match b with | 0 => some [.slot 11 (.int .i64)] | _ => none, cut := fun _ => none, deep := fun _ => false }
theorem c_impl_allIn : Contract Try.prog 187 e_impl_allIn.sig e_impl_allIn.F :=
  den_is (E := v_impl_allIn) ⟨tab_ti, tab_eq⟩ (fns_cons c_impl_InRange (fns_nil _)) mixed Try.func187 (by kernel_rfl) (by kernel_rfl) (fun x => by kernel_rfl)

def s_impl_IsState : Sig := { params := [.val true y167], res := [.val false y4] }
noncomputable def e_impl_IsState : Entry := ⟨s_impl_IsState, fun a => D.impl_IsState a⟩
noncomputable def v_impl_IsState : Env := { ti := look tab, Γ := fns [(91, [], e_impl_InRange), (187, [], e_impl_allIn)], loop := fun _ => none, cut := fun _ => none, deep := fun _ => false }
theorem c_impl_IsState : Contract Try.prog 192 e_impl_IsState.sig e_impl_IsState.F :=
  den_is (E := v_impl_IsState) ⟨tab_ti, tab_eq⟩ (fns_cons c_impl_InRange (fns_cons c_impl_allIn (fns_nil _))) mixed Try.func192 (by kernel_rfl) (by kernel_rfl) (fun x => by kernel_rfl)

def s_impl_canStep : Sig := { params := [.val false y29, .val true y167], res := [.val false y4] }
noncomputable def e_impl_canStep : Entry := ⟨s_impl_canStep, fun a => D.impl_canStep a.1 a.2⟩
noncomputable def v_impl_canStep : Env := { ti := look tab, Γ := fns [(119, [], e_impl_IsScript), (192, [], e_impl_IsState)], loop := fun _ => none, cut := fun _ => none, deep := fun _ => false }
theorem c_impl_canStep : Contract Try.prog 172 e_impl_canStep.sig e_impl_canStep.F :=
  den_is (E := v_impl_canStep) ⟨tab_ti, tab_eq⟩ (fns_cons c_impl_IsScript (fns_cons c_impl_IsState (fns_nil _))) mixed Try.func172 (by kernel_rfl) (by kernel_rfl) (fun x => by kernel_rfl)

def s_impl_Asks : Sig := { params := [.val false y3], res := [.val false y4] }
noncomputable def e_impl_Asks : Entry := ⟨s_impl_Asks, fun a => D.impl_Asks a⟩
noncomputable def v_impl_Asks : Env := { ti := look tab, Γ := fns [(91, [], e_impl_InRange)], loop := fun _ => none, cut := fun _ => none, deep := fun _ => false }
theorem c_impl_Asks : Contract Try.prog 173 e_impl_Asks.sig e_impl_Asks.F :=
  den_is (E := v_impl_Asks) ⟨tab_ti, tab_eq⟩ (fns_cons c_impl_InRange (fns_nil _)) mixed Try.func173 (by kernel_rfl) (by kernel_rfl) (fun x => by kernel_rfl)

def s_impl_WantOf : Sig := { params := [.val false y29, .val true y167], res := [.val true y171] }
noncomputable def e_impl_WantOf : Entry := ⟨s_impl_WantOf, fun a => D.impl_WantOf a.1 a.2⟩
noncomputable def v_impl_WantOf : Env := { ti := look tab, Γ := fns [(172, [], e_impl_canStep), (173, [], e_impl_Asks)], loop := fun _ => none, cut := fun _ => none, deep := fun _ => false }
theorem c_impl_WantOf : Contract Try.prog 122 e_impl_WantOf.sig e_impl_WantOf.F :=
  den_is (E := v_impl_WantOf) ⟨tab_ti, tab_eq⟩ (fns_cons c_impl_canStep (fns_cons c_impl_Asks (fns_nil _))) mixed Try.func122 (by kernel_rfl) (by kernel_rfl) (fun x => by kernel_rfl)

def s_slices_Clone_int : Sig := { params := [.val false y61], res := [.row 3 y3 false] }
noncomputable def e_slices_Clone_int : Entry := ⟨s_slices_Clone_int, fun a => D.slices_Clone_int a⟩
noncomputable def v_slices_Clone_int : Env := { ti := look tab, Γ := fns [], loop := fun _ => none, cut := fun _ => none, deep := fun _ => false }
theorem c_slices_Clone_int : Contract Try.prog 183 e_slices_Clone_int.sig e_slices_Clone_int.F :=
  den_is (E := v_slices_Clone_int) ⟨tab_ti, tab_eq⟩ (fns_nil _) mixed Try.func183 (by kernel_rfl) (by kernel_rfl) (fun x => by kernel_rfl)

def s_impl_copyState : Sig := { params := [.val true y167], res := [.val false y3, .row 3 y3 false, .row 3 y3 false, .row 3 y3 false], rgroups := [some 4] }
noncomputable def e_impl_copyState : Entry := ⟨s_impl_copyState, fun a => D.impl_copyState a⟩
noncomputable def v_impl_copyState : Env := { ti := look tab, Γ := fns [(183, [], e_slices_Clone_int)], loop := fun _ => none, cut := fun _ => none, deep := fun _ => false }
theorem c_impl_copyState : Contract Try.prog 174 e_impl_copyState.sig e_impl_copyState.F :=
  den_is (E := v_impl_copyState) ⟨tab_ti, tab_eq⟩ (fns_cons c_slices_Clone_int (fns_nil _)) mixed Try.func174 (by kernel_rfl) (by kernel_rfl) (fun x => by kernel_rfl)

def s_impl_StepState : Sig := { params := [.val false y29, .val true y167, .val false y3], res := [.val false y3, .row 3 y3 false, .row 3 y3 false, .row 3 y3 false], rgroups := [some 4] }
noncomputable def e_impl_StepState : Entry := ⟨s_impl_StepState, fun a => D.impl_StepState a.1 a.2.1 a.2.2⟩
noncomputable def v_impl_StepState : Env := { ti := look tab, Γ := fns [(174, [], e_impl_copyState), (172, [], e_impl_canStep)], loop := fun _ => none, cut := fun _ => none, deep := fun _ => false }
theorem c_impl_StepState : Contract Try.prog 123 e_impl_StepState.sig e_impl_StepState.F :=
  den_is (E := v_impl_StepState) ⟨tab_ti, tab_eq⟩ (fns_cons c_impl_copyState (fns_cons c_impl_canStep (fns_nil _))) mixed Try.func123 (by kernel_rfl) (by kernel_rfl) (fun x => by kernel_rfl)

def s_impl_IsAddress : Sig := { params := [.val true y60], res := [.val false y4] }
noncomputable def e_impl_IsAddress : Entry := ⟨s_impl_IsAddress, fun a => D.impl_IsAddress a⟩
noncomputable def v_impl_IsAddress : Env := { ti := look tab, Γ := fns [(91, [], e_impl_InRange)], loop := fun _ => none, cut := fun _ => none, deep := fun _ => false }
theorem c_impl_IsAddress : Contract Try.prog 153 e_impl_IsAddress.sig e_impl_IsAddress.F :=
  den_is (E := v_impl_IsAddress) ⟨tab_ti, tab_eq⟩ (fns_cons c_impl_InRange (fns_nil _)) mixed Try.func153 (by kernel_rfl) (by kernel_rfl) (fun x => by kernel_rfl)

def s_impl_AreEntries_1 : Sig := { params := [.val true y159], res := [.val false y4] }
noncomputable def e_impl_AreEntries_1 : Entry := ⟨s_impl_AreEntries_1, fun a => D.impl_AreEntries_1 a⟩
noncomputable def v_impl_AreEntries_1 : Env := { ti := look tab, Γ := fns [(153, [], e_impl_IsAddress), (91, [], e_impl_InRange), (173, [], e_impl_Asks)], loop := fun _ => none, cut := fun _ => none, deep := fun _ => false }
theorem c_impl_AreEntries_1 : Contract Try.prog 176 e_impl_AreEntries_1.sig e_impl_AreEntries_1.F :=
  den_is (E := v_impl_AreEntries_1) ⟨tab_ti, tab_eq⟩ (fns_cons c_impl_IsAddress (fns_cons c_impl_InRange (fns_cons c_impl_Asks (fns_nil _)))) mixed Try.func176 (by kernel_rfl) (by kernel_rfl) (fun x => by kernel_rfl)

def s_slices_IndexFunc_Entry_impl_AreEntries_1 : Sig := { params := [.val false y30, .fn 176 []], res := [.val false y3] }
noncomputable def e_slices_IndexFunc_Entry_impl_AreEntries_1 : Entry := ⟨s_slices_IndexFunc_Entry_impl_AreEntries_1, fun a => D.slices_IndexFunc_Entry_impl_AreEntries_1 a.1⟩
noncomputable def v_slices_IndexFunc_Entry_impl_AreEntries_1 : Env := { ti := look tab, Γ := fns [(176, [], e_impl_AreEntries_1)], loop := fun b => match b with | 0 => some [.slot 8 (.int .i64)] | _ => none, cut := fun _ => none, deep := fun _ => false }
theorem c_slices_IndexFunc_Entry_impl_AreEntries_1 : Contract Try.prog 193 e_slices_IndexFunc_Entry_impl_AreEntries_1.sig e_slices_IndexFunc_Entry_impl_AreEntries_1.F :=
  den_is (E := v_slices_IndexFunc_Entry_impl_AreEntries_1) ⟨tab_ti, tab_eq⟩ (fns_cons c_impl_AreEntries_1 (fns_nil _)) mixed Try.func193 (by kernel_rfl) (by kernel_rfl) (fun x => by kernel_rfl)

def s_slices_ContainsFunc_Entry_impl_AreEntries_1 : Sig := { params := [.val false y30, .fn 176 []], res := [.val false y4] }
noncomputable def e_slices_ContainsFunc_Entry_impl_AreEntries_1 : Entry := ⟨s_slices_ContainsFunc_Entry_impl_AreEntries_1, fun a => D.slices_ContainsFunc_Entry_impl_AreEntries_1 a.1⟩
noncomputable def v_slices_ContainsFunc_Entry_impl_AreEntries_1 : Env := { ti := look tab, Γ := fns [(193, [176], e_slices_IndexFunc_Entry_impl_AreEntries_1)], loop := fun _ => none, cut := fun _ => none, deep := fun _ => false }
theorem c_slices_ContainsFunc_Entry_impl_AreEntries_1 : Contract Try.prog 175 e_slices_ContainsFunc_Entry_impl_AreEntries_1.sig e_slices_ContainsFunc_Entry_impl_AreEntries_1.F :=
  den_is (E := v_slices_ContainsFunc_Entry_impl_AreEntries_1) ⟨tab_ti, tab_eq⟩ (fns_cons c_slices_IndexFunc_Entry_impl_AreEntries_1 (fns_nil _)) mixed Try.func175 (by kernel_rfl) (by kernel_rfl) (fun x => by kernel_rfl)

def s_impl_AreEntries : Sig := { params := [.val false y30], res := [.val false y4] }
noncomputable def e_impl_AreEntries : Entry := ⟨s_impl_AreEntries, fun a => D.impl_AreEntries a⟩
noncomputable def v_impl_AreEntries : Env := { ti := look tab, Γ := fns [(175, [176], e_slices_ContainsFunc_Entry_impl_AreEntries_1)], loop := fun _ => none, cut := fun _ => none, deep := fun _ => false }
theorem c_impl_AreEntries : Contract Try.prog 124 e_impl_AreEntries.sig e_impl_AreEntries.F :=
  den_is (E := v_impl_AreEntries) ⟨tab_ti, tab_eq⟩ (fns_cons c_slices_ContainsFunc_Entry_impl_AreEntries_1 (fns_nil _)) mixed Try.func124 (by kernel_rfl) (by kernel_rfl) (fun x => by kernel_rfl)

def s_impl_Migrate : Sig := { params := [.val false y29, .val false y72], res := [.row 159 y159 false, .val false y4] }
noncomputable def e_impl_Migrate : Entry := ⟨s_impl_Migrate, fun a => D.impl_Migrate a.1 a.2⟩
noncomputable def v_impl_Migrate : Env := { ti := look tab, Γ := fns [(119, [], e_impl_IsScript), (120, [], e_impl_StartState), (121, [], e_impl_IsDone), (122, [], e_impl_WantOf), (123, [], e_impl_StepState), (124, [], e_impl_AreEntries)], loop := fun b => match b with | 0 => some [.slot 23 (.int .i64)] | 2 => some [.slot 9 (.own 159 y159 false), .box 8 [.int .i64, .own 3 y3 false, .own 3 y3 false, .own 3 y3 false]] | _ => none, cut := fun _ => none, deep := fun _ => false }
theorem c_impl_Migrate : Contract Try.prog 48 e_impl_Migrate.sig e_impl_Migrate.F :=
  den_is (E := v_impl_Migrate) ⟨tab_ti, tab_eq⟩ (fns_cons c_impl_IsScript (fns_cons c_impl_StartState (fns_cons c_impl_IsDone (fns_cons c_impl_WantOf (fns_cons c_impl_StepState (fns_cons c_impl_AreEntries (fns_nil _))))))) mixed Try.func48 (by kernel_rfl) (by kernel_rfl) (fun x => by kernel_rfl)

def s_slices_Equal_Entry : Sig := { params := [.val false y30, .val false y30], res := [.val false y4] }
noncomputable def e_slices_Equal_Entry : Entry := ⟨s_slices_Equal_Entry, fun a => D.slices_Equal_Entry a.1 a.2⟩
noncomputable def v_slices_Equal_Entry : Env := { ti := look tab, Γ := fns [], loop := fun b => match b with | 0 => some [.slot 13 (.int .i64)] | _ => none, cut := fun _ => none, deep := fun _ => false }
theorem c_slices_Equal_Entry : Contract Try.prog 138 e_slices_Equal_Entry.sig e_slices_Equal_Entry.F :=
  den_is (E := v_slices_Equal_Entry) ⟨tab_ti, tab_eq⟩ (fns_nil _) mixed Try.func138 (by kernel_rfl) (by kernel_rfl) (fun x => by kernel_rfl)

def s_impl_EqualEntries : Sig := { params := [.val false y30, .val false y30], res := [.val false y4] }
noncomputable def e_impl_EqualEntries : Entry := ⟨s_impl_EqualEntries, fun a => D.impl_EqualEntries a.1 a.2⟩
noncomputable def v_impl_EqualEntries : Env := { ti := look tab, Γ := fns [(138, [], e_slices_Equal_Entry)], loop := fun _ => none, cut := fun _ => none, deep := fun _ => false }
theorem c_impl_EqualEntries : Contract Try.prog 73 e_impl_EqualEntries.sig e_impl_EqualEntries.F :=
  den_is (E := v_impl_EqualEntries) ⟨tab_ti, tab_eq⟩ (fns_cons c_slices_Equal_Entry (fns_nil _)) mixed Try.func73 (by kernel_rfl) (by kernel_rfl) (fun x => by kernel_rfl)

def s_impl_IsEquivalent : Sig := { params := [.val false y29, .val false y72, .val false y30], res := [.val false y4] }
noncomputable def e_impl_IsEquivalent : Entry := ⟨s_impl_IsEquivalent, fun a => D.impl_IsEquivalent a.1 a.2.1 a.2.2⟩
noncomputable def v_impl_IsEquivalent : Env := { ti := look tab, Γ := fns [(48, [], e_impl_Migrate), (73, [], e_impl_EqualEntries)], loop := fun _ => none, cut := fun _ => none, deep := fun _ => false }
theorem c_impl_IsEquivalent : Contract Try.prog 43 e_impl_IsEquivalent.sig e_impl_IsEquivalent.F :=
  den_is (E := v_impl_IsEquivalent) ⟨tab_ti, tab_eq⟩ (fns_cons c_impl_Migrate (fns_cons c_impl_EqualEntries (fns_nil _))) mixed Try.func43 (by kernel_rfl) (by kernel_rfl) (fun x => by kernel_rfl)

def s_laws_eqOp : Sig := { params := [.val true y117, .val true y117], res := [.val false y4] }
noncomputable def e_laws_eqOp : Entry := ⟨s_laws_eqOp, fun a => D.laws_eqOp a.1 a.2⟩
noncomputable def v_laws_eqOp : Env := { ti := look tab, Γ := fns [], loop := fun _ => none, cut := fun _ => none, deep := fun _ => false }
theorem c_laws_eqOp : Contract Try.prog 110 e_laws_eqOp.sig e_laws_eqOp.F :=
  den_is (E := v_laws_eqOp) ⟨tab_ti, tab_eq⟩ (fns_nil _) mixed Try.func110 (by kernel_rfl) (by kernel_rfl) (fun x => by kernel_rfl)

def s_laws_eqOpS : Sig := { params := [.val false y29, .val false y29], res := [.val false y4] }
noncomputable def e_laws_eqOpS : Entry := ⟨s_laws_eqOpS, fun a => D.laws_eqOpS a.1 a.2⟩
noncomputable def v_laws_eqOpS : Env := { ti := look tab, Γ := fns [(110, [], e_laws_eqOp)], loop := fun b => match b with | 0 => some [.slot 5 (.int .i64)] | _ => none, cut := fun _ => none, deep := fun _ => false }
theorem c_laws_eqOpS : Contract Try.prog 44 e_laws_eqOpS.sig e_laws_eqOpS.F :=
  den_is (E := v_laws_eqOpS) ⟨tab_ti, tab_eq⟩ (fns_cons c_laws_eqOp (fns_nil _)) mixed Try.func44 (by kernel_rfl) (by kernel_rfl) (fun x => by kernel_rfl)

def s_laws_eqIntS : Sig := { params := [.val false y61, .val false y61], res := [.val false y4] }
noncomputable def e_laws_eqIntS : Entry := ⟨s_laws_eqIntS, fun a => D.laws_eqIntS a.1 a.2⟩
noncomputable def v_laws_eqIntS : Env := { ti := look tab, Γ := fns [], loop := fun b => match b with | 0 => some [.slot 5 (.int .i64)] | _ => none, cut := fun _ => none, deep := fun _ => false }
theorem c_laws_eqIntS : Contract Try.prog 111 e_laws_eqIntS.sig e_laws_eqIntS.F :=
  den_is (E := v_laws_eqIntS) ⟨tab_ti, tab_eq⟩ (fns_nil _) mixed Try.func111 (by kernel_rfl) (by kernel_rfl) (fun x => by kernel_rfl)

def s_laws_eqIntSS : Sig := { params := [.val false y72, .val false y72], res := [.val false y4] }
noncomputable def e_laws_eqIntSS : Entry := ⟨s_laws_eqIntSS, fun a => D.laws_eqIntSS a.1 a.2⟩
noncomputable def v_laws_eqIntSS : Env := { ti := look tab, Γ := fns [(111, [], e_laws_eqIntS)], loop := fun b => match b with | 0 => some [.slot 5 (.int .i64)] | _ => none, cut := fun _ => none, deep := fun _ => false }
theorem c_laws_eqIntSS : Contract Try.prog 45 e_laws_eqIntSS.sig e_laws_eqIntSS.F :=
  den_is (E := v_laws_eqIntSS) ⟨tab_ti, tab_eq⟩ (fns_cons c_laws_eqIntS (fns_nil _)) mixed Try.func45 (by kernel_rfl) (by kernel_rfl) (fun x => by kernel_rfl)

def s_laws_eqAddress : Sig := { params := [.val true y60, .val true y60], res := [.val false y4] }
noncomputable def e_laws_eqAddress : Entry := ⟨s_laws_eqAddress, fun a => D.laws_eqAddress a.1 a.2⟩
noncomputable def v_laws_eqAddress : Env := { ti := look tab, Γ := fns [], loop := fun _ => none, cut := fun _ => none, deep := fun _ => false }
theorem c_laws_eqAddress : Contract Try.prog 146 e_laws_eqAddress.sig e_laws_eqAddress.F :=
  den_is (E := v_laws_eqAddress) ⟨tab_ti, tab_eq⟩ (fns_nil _) mixed Try.func146 (by kernel_rfl) (by kernel_rfl) (fun x => by kernel_rfl)

def s_laws_eqEntry : Sig := { params := [.val true y159, .val true y159], res := [.val false y4] }
noncomputable def e_laws_eqEntry : Entry := ⟨s_laws_eqEntry, fun a => D.laws_eqEntry a.1 a.2⟩
noncomputable def v_laws_eqEntry : Env := { ti := look tab, Γ := fns [(146, [], e_laws_eqAddress)], loop := fun _ => none, cut := fun _ => none, deep := fun _ => false }
theorem c_laws_eqEntry : Contract Try.prog 112 e_laws_eqEntry.sig e_laws_eqEntry.F :=
  den_is (E := v_laws_eqEntry) ⟨tab_ti, tab_eq⟩ (fns_cons c_laws_eqAddress (fns_nil _)) mixed Try.func112 (by kernel_rfl) (by kernel_rfl) (fun x => by kernel_rfl)

def s_laws_eqEntryS : Sig := { params := [.val false y30, .val false y30], res := [.val false y4] }
noncomputable def e_laws_eqEntryS : Entry := ⟨s_laws_eqEntryS, fun a => D.laws_eqEntryS a.1 a.2⟩
noncomputable def v_laws_eqEntryS : Env := { ti := look tab, Γ := fns [(112, [], e_laws_eqEntry)], loop := fun b => match b with | 0 => some [.slot 5 (.int .i64)] | _ => none, cut := fun _ => none, deep := fun _ => false }
theorem c_laws_eqEntryS : Contract Try.prog 46 e_laws_eqEntryS.sig e_laws_eqEntryS.F :=
  den_is (E := v_laws_eqEntryS) ⟨tab_ti, tab_eq⟩ (fns_cons c_laws_eqEntry (fns_nil _)) mixed Try.func46 (by kernel_rfl) (by kernel_rfl) (fun x => by kernel_rfl)

def s_laws_FnExactIsEquivalent : Sig := { params := [.val false y22, .val false y72, .val false y23], res := [.val false y4] }
noncomputable def e_laws_FnExactIsEquivalent : Entry := ⟨s_laws_FnExactIsEquivalent, fun a => D.laws_FnExactIsEquivalent a.1 a.2.1 a.2.2⟩
noncomputable def v_laws_FnExactIsEquivalent : Env := { ti := look tab, Γ := fns [(36, [], e_laws_szOpS), (37, [], e_laws_szIntSS), (38, [], e_laws_szEntryS), (40, [], e_laws_toOpS), (41, [], e_laws_toIntSS), (42, [], e_laws_toEntryS), (39, [], e_spec_IsEquivalent), (43, [], e_impl_IsEquivalent), (44, [], e_laws_eqOpS), (45, [], e_laws_eqIntSS), (46, [], e_laws_eqEntryS)], loop := fun _ => none, cut := fun _ => none, deep := fun _ => false }
theorem c_laws_FnExactIsEquivalent : Contract Try.prog 6 e_laws_FnExactIsEquivalent.sig e_laws_FnExactIsEquivalent.F :=
  den_is (E := v_laws_FnExactIsEquivalent) ⟨tab_ti, tab_eq⟩ (fns_cons c_laws_szOpS (fns_cons c_laws_szIntSS (fns_cons c_laws_szEntryS (fns_cons c_laws_toOpS (fns_cons c_laws_toIntSS (fns_cons c_laws_toEntryS (fns_cons c_spec_IsEquivalent (fns_cons c_impl_IsEquivalent (fns_cons c_laws_eqOpS (fns_cons c_laws_eqIntSS (fns_cons c_laws_eqEntryS (fns_nil _)))))))))))) mixed Try.func6 (by kernel_rfl) (by kernel_rfl) (fun x => by kernel_rfl)

theorem law_true (a : Tup (s_laws_FnExactIsEquivalent.params.map PTy.den)) (hok : argsOk Try.prog s_laws_FnExactIsEquivalent.params a) : D.laws_FnExactIsEquivalent a.1 a.2.1 a.2.2 = some true := D.FnExactIsEquivalent_true a.1 a.2.1 a.2.2 (Ty.ok_bd (P := Try.prog) (t := y22) (by kernel_rfl) hok.1) (Ty.ok_bd (P := Try.prog) (t := y72) (by kernel_rfl) hok.2.1) (Ty.ok_bd (P := Try.prog) (t := y23) (by kernel_rfl) hok.2.2.1)
theorem lifted (os : Os) (started : os.Started) (H : Type) (enc : TypeId × Value → H) :
    ReturnsInHanded {} Try.checked os 6 .any (Rows.fnExactIsEquivalentSpec.pre6 enc Try.prog Try.f6 Rows.fnExactIsEquivalentRow.domain false) (Rows.fnExactIsEquivalentSpec.post enc Try.prog Try.f6 false true false false) := by
  refine returnsInHanded_of_change_sized (C := Try.checked) (by kernel_rfl) started (by kernel_rfl) Try.func6
    (ChangeSpec.witness6 (enc := enc) (C := Try.checked) false ⟨#[], #[.slice none 0 0, .slice none 0 0, .slice none 0 0], []⟩ 8 (by kernel_rfl) (by kernel_rfl) (by kernel_rfl) (by kernel_rfl)) ?_
  intro W base args ds gs before hval hW hcnd hsz _
  exact law_row (C := Try.checked) rfl c_laws_FnExactIsEquivalent (N := 8) (by kernel_rfl) (tb := 4) (by kernel_rfl) (by kernel_rfl) (by kernel_rfl) (by kernel_rfl) rfl
    (fun ds h => by
      have h : ds.length = 3 := h
      match ds, h with
      | [d0, d1, d2], _ => rfl)
    bulky_sizeOf (small := fun _ => True) (fun a ds hok _ _ => ⟨_, law_true a hok, rfl⟩) hval hW hsz trivial

theorem over : Rows.fnExactIsEquivalentRow.holds Try.pinned (OpenSpec.ofChange Rows.fnExactIsEquivalentSpec) :=
  OpenClaim.holds_of_wide 6 Try.f6 rfl rfl rfl rfl rfl rfl rfl ⟨rfl, rfl, rfl, rfl, rfl⟩ rfl rfl rfl rfl rfl (by kernel_rfl) Try.func6 (by kernel_rfl)
    (of_decide_eq_true (by kernel_rfl)) (by unfold Func.isWrapper; first | (rw [if_pos (by decide +kernel)]; kernel_rfl) | (rw [if_neg (by decide +kernel)]; exact ⟨rfl, rfl⟩))
    (fun os started H enc _ => lifted os started H enc)
end Go.Proofs.Ytfkjmehjofhoiaa.SxFnExactIsEquivalent
namespace Go.Proofs.Ytfkjmehjofhoiaa
theorem fnExactIsEquivalent_holds : Rows.FnExactIsEquivalentSaid := SxFnExactIsEquivalent.over
end Go.Proofs.Ytfkjmehjofhoiaa
