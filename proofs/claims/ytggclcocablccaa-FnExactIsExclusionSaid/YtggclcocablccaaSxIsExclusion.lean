/- FnExactIsExclusion returns true for every input, and the input reads as it did. No condition. -/
import Derived.Test.YtggclcocablccaaRows
import Derived.Test.YtggclcocablccaaSh7
import Derived.WalkKit
import Derived.ProofKit
import Derived.ShutString
import Derived.SizedLaws
set_option linter.unusedVariables false
set_option maxRecDepth 100000
namespace Go.Proofs.Ytggclcocablccaa.Sx
open Go Go.Sh Go.RowKit

def I : Ty := .int .i64
def exTy : Ty := .pair I (.pair I (.pair I (.pair I I)))
def tInt : TI := { size := 1, bytes := 8, agg := false, ty := some I }
def tBool : TI := { size := 1, bytes := 1, agg := false, ty := some .bool }
def tEx : TI := { size := 5, bytes := 40, agg := true, ty := some exTy, fields := [(0, 3), (1, 3), (2, 3), (3, 3), (4, 3)] }
def tab : List (TypeId × TI) := [(3, tInt), (4, tBool), (23, tEx), (25, tEx)]
def look : List (TypeId × TI) → TypeId → Option TI
  | [], _ => none
  | (k, i) :: r, t => if Nat.beq t k = true then some i else look r t
theorem look_ok {P : Program} : ∀ {l : List (TypeId × TI)}, (l.all fun p => tiOk P p.1 p.2) = true → ∀ t i, look l t = some i → tiOk P t i = true
  | [], _, t, i, h => by simp [look] at h
  | (k, j) :: r, h0, t, i, h => by
    simp only [List.all_cons, Bool.and_eq_true] at h0
    simp only [look] at h
    split at h
    · rename_i hk
      simp only [Option.some.injEq] at h
      have := Nat.eq_of_beq_eq_true hk
      subst this; subst h; exact h0.1
    · exact look_ok h0.2 t i h
theorem look_eq : ∀ {l : List (TypeId × TI)}, (l.all fun p => !p.2.eq) = true → ∀ t i, look l t = some i → i.eq = false
  | [], _, t, i, h => by simp [look] at h
  | (k, j) :: r, h0, t, i, h => by
    simp only [List.all_cons, Bool.and_eq_true] at h0
    simp only [look] at h
    split at h
    · simp only [Option.some.injEq] at h
      subst h; simpa using h0.1
    · exact look_eq h0.2 t i h

def fns : List (FuncId × Entry) → FuncId → List FuncId → Option Entry
  | [], _, _ => none
  | (k, e) :: r, f, fs => if Nat.beq f k = true then some e else fns r f fs
theorem fns_nil (P : Program) : ∀ f fs en, fns [] f fs = some en → Contract P f en.sig en.F := fun f fs en h => by simp [fns] at h
theorem fns_cons {P : Program} {k : FuncId} {e : Entry} {r : List (FuncId × Entry)} (hk : Contract P k e.sig e.F) (hr : ∀ f fs en, fns r f fs = some en → Contract P f en.sig en.F) : ∀ f fs en, fns ((k, e) :: r) f fs = some en → Contract P f en.sig en.F := fun f fs en h => by
  simp only [fns] at h
  split at h
  · rename_i hf
    simp only [Option.some.injEq] at h
    have := Nat.eq_of_beq_eq_true hf
    subst this; subst h; exact hk
  · exact hr f fs en h

def env (l : List (FuncId × Entry)) : Env := { ti := look tab, Γ := fns l, loop := fun _ => none, cut := fun _ => none, deep := fun _ => false }
theorem tabOk (l : List (FuncId × Entry)) : TabOk Try.prog (env l) where
  ti := look_ok (by kernel_rfl)
  eq t i h he := by rw [look_eq (l := tab) (by kernel_rfl) t i h] at he; cases he
theorem mixed : Try.prog.follows .mixedOrders = true := by kernel_rfl

def sIn : Sig := { params := [.val false I, .val false I, .val false I], res := [.val false .bool] }
def sEx : Sig := { params := [.val true exTy], res := [.val false .bool] }
def sTo : Sig := { params := [.val true exTy], res := [.val true exTy] }
abbrev Ex := Int × Int × Int × Int × Int
namespace D
def l1In (a b c : Int) : Option Bool := N.cond (N.ge a b) (some (N.le a c)) (some false)
def InRange (a b c : Int) : Option Bool := N.cond (N.le b a) (some (N.le a c)) (some false)
def specIsExclusion (x : Ex) : Option Bool :=
  N.bind (l1In x.1 1 9) fun out => N.cond out (N.bind (l1In x.2.1 (-1) 99) fun out => N.cond out (N.bind (l1In x.2.2.1 0 2000) fun out => N.cond out (N.bind (l1In x.2.2.2.1 x.2.2.1 2000) fun out =>
    N.cond out (N.bind (l1In x.2.2.2.2 0 2000) fun out => some out) (some false)) (some false)) (some false)) (some false)
def implIsExclusion (x : Ex) : Option Bool :=
  N.bind (InRange x.1 1 9) fun out => N.cond out (N.bind (InRange x.2.1 (-1) 99) fun out => N.cond out (N.bind (InRange x.2.2.1 0 x.2.2.2.1) fun out =>
    N.cond out (N.cond (N.le x.2.2.2.1 2000) (N.bind (InRange x.2.2.2.2 0 2000) fun out => some out) (some false)) (some false)) (some false)) (some false)
def toExclusion (x : Ex) : Option Ex := some x
def law (x : Ex) : Option Bool :=
  N.bind (toExclusion x) fun y => N.bind (specIsExclusion y) fun p => N.bind (toExclusion x) fun z => N.bind (implIsExclusion z) fun q => N.cond (N.neB q p) (some false) (some true)
end D

def e29 : Entry := ⟨sIn, fun x => D.l1In x.1 x.2.1 x.2.2⟩
def e30 : Entry := ⟨sIn, fun x => D.InRange x.1 x.2.1 x.2.2⟩
def e9 : Entry := ⟨sEx, D.specIsExclusion⟩
def e11 : Entry := ⟨sEx, D.implIsExclusion⟩
def e10 : Entry := ⟨sTo, D.toExclusion⟩
def e3 : Entry := ⟨sEx, D.law⟩

theorem c29 : Contract Try.prog 29 e29.sig e29.F := den_is (tabOk []) (fns_nil _) mixed Try.func29 (by kernel_rfl) (by kernel_rfl) (fun x => by kernel_rfl)
theorem c30 : Contract Try.prog 30 e30.sig e30.F := den_is (tabOk []) (fns_nil _) mixed Try.func30 (by kernel_rfl) (by kernel_rfl) (fun x => by kernel_rfl)
theorem c9 : Contract Try.prog 9 e9.sig e9.F := den_is (tabOk [(29, e29)]) (fns_cons c29 (fns_nil _)) mixed Try.func9 (by kernel_rfl) (by kernel_rfl) (fun x => by kernel_rfl)
theorem c11 : Contract Try.prog 11 e11.sig e11.F := den_is (tabOk [(30, e30)]) (fns_cons c30 (fns_nil _)) mixed Try.func11 (by kernel_rfl) (by kernel_rfl) (fun x => by kernel_rfl)
theorem c10 : Contract Try.prog 10 e10.sig e10.F := den_is (tabOk []) (fns_nil _) mixed Try.func10 (by kernel_rfl) (by kernel_rfl) (fun x => by kernel_rfl)
theorem c3 : Contract Try.prog 3 e3.sig e3.F := den_is (tabOk [(10, e10), (9, e9), (11, e11)]) (fns_cons c10 (fns_cons c9 (fns_cons c11 (fns_nil _)))) mixed Try.func3 (by kernel_rfl) (by kernel_rfl) (fun x => by kernel_rfl)

theorem law_true (x : Ex) : D.law x = some true := by
  obtain ⟨a, b, c, d, e⟩ := x
  simp only [D.law, D.toExclusion, D.specIsExclusion, D.implIsExclusion, D.l1In, D.InRange, N.bind, N.cond, N.ge, N.le, N.neB, Option.bind_some]
  by_cases h1 : 1 ≤ a <;> by_cases h2 : a ≤ 9 <;> by_cases h3 : -1 ≤ b <;> by_cases h4 : b ≤ 99 <;> by_cases h5 : 0 ≤ c <;> by_cases h6 : c ≤ d <;> by_cases h7 : d ≤ 2000 <;> by_cases h8 : 0 ≤ e <;> by_cases h9 : e ≤ 2000 <;> by_cases h10 : c ≤ 2000 <;> first | omega | simp [h1, h2, h3, h4, h5, h6, h7, h8, h9, h10]
set_option maxRecDepth 100000 in
theorem lifted (os : Os) (started : os.Started) (H : Type) (enc : TypeId × Value → H) :
    ReturnsInHanded {} Try.checked os 3 .any (Rows.fnExactIsExclusionSpec.pre6 enc Try.prog Try.f3 Rows.fnExactIsExclusionRow.domain false) (Rows.fnExactIsExclusionSpec.post enc Try.prog Try.f3 false true false false) := by
  refine returnsInHanded_of_change_sized (C := Try.checked) (by kernel_rfl) started (by kernel_rfl) Try.func3
    (ChangeSpec.witness6 (enc := enc) (C := Try.checked) false ⟨#[], #[.agg #[.int .i64 0, .int .i64 0, .int .i64 0, .int .i64 0, .int .i64 0]], []⟩ 8 (by kernel_rfl) (by kernel_rfl) (by kernel_rfl) (by kernel_rfl)) ?_
  intro W base args ds gs before hval hW hcnd hsz _
  exact law_row (C := Try.checked) rfl c3 (N := 8) (by kernel_rfl) (tb := 4) (by kernel_rfl) (by kernel_rfl) (by kernel_rfl) (by kernel_rfl) rfl
    (fun ds h => by
      have h : ds.length = 1 := h
      match ds, h with
      | [d], _ => rfl)
    bulky_sizeOf (small := fun _ => True) (fun a ds _ _ _ => ⟨_, law_true a, rfl⟩) hval hW hsz trivial

theorem over : Rows.fnExactIsExclusionRow.holds Try.pinned (OpenSpec.ofChange Rows.fnExactIsExclusionSpec) :=
  OpenClaim.holds_of_wide 3 Try.f3 rfl rfl rfl rfl rfl rfl rfl ⟨rfl, rfl, rfl, rfl, rfl⟩ rfl rfl rfl rfl rfl (by kernel_rfl) Try.func3 (by kernel_rfl)
    (of_decide_eq_true (by kernel_rfl)) (by unfold Func.isWrapper; first | (rw [if_pos (by decide +kernel)]; kernel_rfl) | (rw [if_neg (by decide +kernel)]; exact ⟨rfl, rfl⟩))
    (fun os started H enc _ => lifted os started H enc)
end Go.Proofs.Ytggclcocablccaa.Sx
namespace Go.Proofs.Ytggclcocablccaa
theorem fnExactIsExclusion_holds : Rows.FnExactIsExclusionSaid := Sx.over
end Go.Proofs.Ytggclcocablccaa
