/- The evaluator and its soundness, part 8: a function of the program does what its native form tells. -/
import Derived.Test.YtfipolbgkppdjaaGreatDoorSh7
import Derived.Laws.StructEq
set_option linter.unusedVariables false
set_option linter.unusedSimpArgs false
namespace Go.Sh
open Go

/-! ## Structs held against each other -/
def eqFieldsOk (P : Program) (rec : TypeId → List LV → Bool) : List Field → Nat → List LV → Bool
  | [], o, z => o == z.length
  | f :: fs, o, z => f.name != "_" && f.offset == o && (match P.info? f.type with
    | some i => rec f.type ((z.drop o).take i.size) && Nat.ble (o + i.size) z.length && eqFieldsOk P rec fs (o + i.size) z
    | none => false)

def eqOk (P : Program) : Nat → TypeId → List LV → Bool
  | 0, _, _ => false
  | n + 1, t, z => match P.underlying t with
    | some (.int k) => (match z with | [.int k' _] => k == k' | _ => false)
    | some .bool => (match z with | [.bool _] => true | _ => false)
    | some .string => (match z with | [.str _] => true | _ => false)
    | some (.struct fs) => !P.stoodInHeld t && eqFieldsOk P (eqOk P n) fs.toList 0 z
    | _ => false

def isStr (P : Program) (t : TypeId) : Bool := match P.underlying t with | some (.struct _) => true | _ => false

/-- may '==' of this type be worked out cell by cell? -/
def eqTop (P : Program) (t : TypeId) (ty : Option Ty) : Bool := (match ty with | some ty => eqOk P 9 t ty.zero | none => false) && !P.eqGuardType P.depth t && isStr P t

def vOk : List LV → List Value → Prop
  | [], [] => True
  | .int k _ :: z, v :: vs => (∃ n, v = .int k n) ∧ vOk z vs
  | .bool _ :: z, v :: vs => (∃ b, v = .bool b) ∧ vOk z vs
  | .str _ :: z, v :: vs => (∃ b, v = .string b) ∧ vOk z vs
  | _, _ => False

def vEq : Value → Value → Bool
  | .int k a, .int k' b => a == b
  | .bool a, .bool b => a == b
  | .string a, .string b => a.toList == b.toList
  | _, _ => false

def vsEq : List Value → List Value → Bool
  | a :: x, b :: y => vEq a b && vsEq x y
  | _, _ => true

theorem vOk.len : ∀ {z : List LV} {x : List Value}, vOk z x → x.length = z.length
  | [], [], _ => rfl
  | c :: z, v :: x, h => by cases c <;> simp only [vOk] at h <;> first | exact h.elim | simp [vOk.len h.2]
  | [], _ :: _, h => by simp [vOk] at h
  | c :: z, [], h => by cases c <;> simp [vOk] at h

theorem vOk.take : ∀ (n : Nat) {z : List LV} {x : List Value}, vOk z x → vOk (z.take n) (x.take n)
  | 0, _, _, _ => by simp [vOk]
  | n + 1, [], [], _ => by simp [vOk]
  | n + 1, c :: z, v :: x, h => by cases c <;> simp only [vOk, List.take_succ_cons] at h ⊢ <;> first | exact h.elim | exact ⟨h.1, h.2.take n⟩
  | n + 1, [], _ :: _, h => by simp [vOk] at h
  | n + 1, c :: z, [], h => by cases c <;> simp [vOk] at h
theorem vOk.drop : ∀ (n : Nat) {z : List LV} {x : List Value}, vOk z x → vOk (z.drop n) (x.drop n)
  | 0, _, _, h => by simpa using h
  | n + 1, [], [], _ => by simp [vOk]
  | n + 1, c :: z, v :: x, h => by cases c <;> simp only [vOk, List.drop_succ_cons] at h ⊢ <;> first | exact h.elim | exact vOk.drop n h.2
  | n + 1, [], _ :: _, h => by simp [vOk] at h
  | n + 1, c :: z, [], h => by cases c <;> simp [vOk] at h

theorem vsEq_append : ∀ {x1 y1 x2 y2 : List Value}, x1.length = y1.length → vsEq (x1 ++ x2) (y1 ++ y2) = (vsEq x1 y1 && vsEq x2 y2)
  | [], [], x2, y2, _ => by simp [vsEq]
  | [], _ :: _, _, _, h => by simp at h
  | _ :: _, [], _, _, h => by simp at h
  | a :: x1, b :: y1, x2, y2, hl => by simp only [List.cons_append, vsEq]; rw [vsEq_append (by simpa using hl), Bool.and_assoc]

def oneVal (P : Program) (t : TypeId) (xs : List Value) : Value := if isStr P t then .agg xs.toArray else xs.headD undef

section
variable {P : Program} {w : World}

theorem eqOk.one {n : Nat} {t : TypeId} {z : List LV} {d : TypeDesc} (hu : P.underlying t = some d) (hd : (∃ k, d = .int k) ∨ d = .bool ∨ d = .string) (h : eqOk P n t z = true) : z.length = 1 := by
  cases n with
  | zero => simp [eqOk] at h
  | succ n =>
    rcases hd with ⟨k, rfl⟩ | rfl | rfl <;> simp only [eqOk, hu] at h <;> split at h <;> first | rfl | cases h

theorem part_is [Laid] {n : Nat} {t : TypeId} {i : TypeInfo} {z : List LV} (hi : P.info? t = some i) (h : eqOk P n t z = true) (hz : z.length = i.size) (xs : List Value) (o : Nat) (hle : o + i.size ≤ xs.length) : (part t xs.toArray o).run P w = .ok (oneVal P t ((xs.drop o).take i.size)) w := by
  cases n with
  | zero => simp [eqOk] at h
  | succ n =>
    have one : ∀ {d}, P.underlying t = some d → ((∃ k, d = .int k) ∨ d = .bool ∨ d = .string) → (part t xs.toArray o).run P w = .ok (oneVal P t ((xs.drop o).take i.size)) w := fun {d} hu hd => by
      have h1 := eqOk.one hu hd h
      have ho : o < xs.length := by omega
      have e : (xs.drop o).take i.size = [xs[o]] := by rw [← hz, h1, List.drop_eq_getElem_cons ho]; rfl
      rw [e]
      rcases hd with ⟨k, rfl⟩ | rfl | rfl <;> simp [part, isAgg, run_underlying hu, oneVal, isStr, hu, ho]
    have h' := h
    simp only [eqOk] at h'
    split at h'
    · rename_i k hu; exact one hu (.inl ⟨k, rfl⟩)
    · rename_i hu; exact one hu (.inr (.inl rfl))
    · rename_i hu; exact one hu (.inr (.inr rfl))
    · rename_i fs hu
      have hs : P.cellsOf t = i.size := by simp [Program.cellsOf, hi]
      simp only [part, isAgg, Sem.run_bind, run_underlying hu, Result.andThen_ok, Sem.run_pure, if_true, run_sizeOf w hi, oneVal, isStr, hu]
      congr 2
      apply Array.ext'
      simp [List.extract_eq_take_drop, List.take_drop, hs]
    · cases h'

theorem eqFields_is [Laid] {n d : Nat} {z : List LV} (ih : ∀ (t : TypeId) (z : List LV), eqOk P n t z = true → ∀ (xs ys : List Value), vOk z xs → vOk z ys → (Op.equalIn d t (oneVal P t xs) (oneVal P t ys)).run P w = .ok (vsEq xs ys) w) :
    ∀ (fs : List Field) (o : Nat), eqFieldsOk P (eqOk P n) fs o z = true → ∀ (xs ys : List Value), vOk z xs → vOk z ys → (Op.eqFields d xs.toArray ys.toArray fs).run P w = .ok (vsEq (xs.drop o) (ys.drop o)) w
  | [], o, h, xs, ys, hx, hy => by
    have lx := hx.len; have ly := hy.len
    simp only [eqFieldsOk, beq_iff_eq] at h
    rw [List.drop_eq_nil_of_le (by omega), List.drop_eq_nil_of_le (by omega)]
    simp [Op.eqFields, vsEq]
  | f :: fs, o, h, xs, ys, hx, hy => by
    have lx := hx.len; have ly := hy.len
    simp only [eqFieldsOk, Bool.and_eq_true, bne_iff_ne, ne_eq, beq_iff_eq] at h
    obtain ⟨⟨h1, h2⟩, h3⟩ := h
    split at h3
    · rename_i i hi
      simp only [Bool.and_eq_true, Nat.ble_eq] at h3
      obtain ⟨⟨h4, h6⟩, h5⟩ := h3
      have sx : xs.drop o = (xs.drop o).take i.size ++ xs.drop (o + i.size) := by rw [← List.drop_drop]; exact (List.take_append_drop _ _).symm
      have sy : ys.drop o = (ys.drop o).take i.size ++ ys.drop (o + i.size) := by rw [← List.drop_drop]; exact (List.take_append_drop _ _).symm
      have l1 : ((xs.drop o).take i.size).length = i.size := by simp; omega
      have l2 : ((ys.drop o).take i.size).length = i.size := by simp; omega
      have lz : ((z.drop o).take i.size).length = i.size := by simp; omega
      rw [sx, sy, vsEq_append (by rw [l1, l2])]
      subst h2
      have p1 := part_is (w := w) hi h4 lz xs f.offset (by omega)
      have p2 := part_is (w := w) hi h4 lz ys f.offset (by omega)
      have p3 := ih _ _ h4 _ _ ((hx.drop f.offset).take i.size) ((hy.drop f.offset).take i.size)
      have p4 := eqFields_is ih fs _ h5 xs ys hx hy
      unfold Op.eqFields
      rw [if_pos h1]
      simp only [Sem.run_bind, p1, p2, p3, Result.andThen_ok, Sem.run_ite]
      cases vsEq ((xs.drop f.offset).take i.size) ((ys.drop f.offset).take i.size) with
      | true => simpa using p4
      | false => simp
    · cases h3

theorem eq_is [Laid] : ∀ (n d : Nat), n ≤ d → ∀ (t : TypeId) (z : List LV), eqOk P n t z = true → ∀ (xs ys : List Value), vOk z xs → vOk z ys → (Op.equalIn d t (oneVal P t xs) (oneVal P t ys)).run P w = .ok (vsEq xs ys) w
  | 0, _, _, _, _, h, _, _, _, _ => by simp [eqOk] at h
  | n + 1, 0, hd, _, _, _, _, _, _, _ => by omega
  | n + 1, d + 1, hd, t, z, h, xs, ys, hx, hy => by
    have h' := h
    simp only [eqOk] at h'
    split at h'
    · rename_i k hu
      split at h'
      · rename_i k' m
        simp only [beq_iff_eq] at h'; subst h'
        match xs, ys, hx, hy with
        | [_], [_], ⟨⟨a, rfl⟩, _⟩, ⟨⟨b, rfl⟩, _⟩ =>
          have e : ∀ v, oneVal P t [v] = v := fun v => by simp [oneVal, isStr, hu]
          rw [e, e, run_equalIn_int w d t k k a b hu]; simp [vsEq, vEq]
      · cases h'
    · rename_i hu
      split at h'
      · match xs, ys, hx, hy with
        | [_], [_], ⟨⟨a, rfl⟩, _⟩, ⟨⟨b, rfl⟩, _⟩ =>
          have e : ∀ v, oneVal P t [v] = v := fun v => by simp [oneVal, isStr, hu]
          rw [e, e, run_equalIn_bool' w d t a b hu]; simp [vsEq, vEq]
      · cases h'
    · rename_i hu
      split at h'
      · match xs, ys, hx, hy with
        | [_], [_], ⟨⟨a, rfl⟩, _⟩, ⟨⟨b, rfl⟩, _⟩ =>
          have e : ∀ v, oneVal P t [v] = v := fun v => by simp [oneVal, isStr, hu]
          rw [e, e, run_equalIn_string w d t a b hu]; simp [vsEq, vEq]
      · cases h'
    · rename_i fs hu
      simp only [Bool.and_eq_true, Bool.not_eq_true'] at h'
      have hf : P.fieldsOf t = fs := by simp [Program.fieldsOf, hu]
      have e : ∀ v, oneVal P t v = .agg v.toArray := fun v => by simp [oneVal, isStr, hu]
      rw [e, e, run_equalIn_agg w d t _ _ (by rw [hf]; exact hu) h'.1, hf]
      simpa using eqFields_is (fun t z h => eq_is n d (by omega) t z h) fs.toList 0 h'.2 xs ys hx hy
    · cases h'

theorem kinds_vOk {cx : Cx} {w : World} : ∀ {z a : List LV} {xs : List Value}, kindsOk z a = true → All2 (VL cx w) a xs → vOk z xs
  | [], [], [], _, _ => by simp [vOk]
  | [], [], _ :: _, _, h => h.elim
  | [], _ :: _, _, h, _ => by simp [kindsOk] at h
  | c :: z, [], _, h, _ => by cases c <;> simp [kindsOk] at h
  | c :: z, e :: a, [], h, hv => hv.elim
  | c :: z, e :: a, v :: xs, h, hv => by
    cases c <;> cases e <;> simp only [kindsOk] at h <;> first | (cases h; done) | skip
    · simp only [Bool.and_eq_true, beq_iff_eq] at h
      obtain ⟨rfl, h⟩ := h
      exact ⟨⟨_, hv.1⟩, kinds_vOk h hv.2⟩
    · exact ⟨⟨_, hv.1⟩, kinds_vOk h hv.2⟩
    · exact ⟨⟨_, hv.1⟩, kinds_vOk h hv.2⟩

theorem eqCells_vsEq {cx : Cx} {w : World} : ∀ {a b : List LV} {xs ys : List Value} {r : Bool}, eqCells a b = some r → All2 (VL cx w) a xs → All2 (VL cx w) b ys → r = vsEq xs ys := by
  have one : ∀ {c e : LV} {u v : Value} {p : Bool}, eqCell c e = some p → VL cx w c u → VL cx w e v → p = vEq u v := fun {c e u v p} h h1 h2 => by
    cases c <;> cases e <;> simp only [eqCell] at h <;> first | (cases h; done) | skip
    · split at h
      · simp only [Option.some.injEq] at h
        cases h1; cases h2; rw [← h]; rfl
      · cases h
    · simp only [Option.some.injEq] at h
      cases h1; cases h2; rw [← h]; rfl
    · simp only [Option.some.injEq] at h
      cases h1; cases h2; rw [← h]; exact beq_toListBytes _ _
  intro a
  induction a with
  | nil => intro b xs ys r h; simp [eqCells] at h
  | cons c a ih =>
    intro b xs ys r h hx hy
    cases b with
    | nil => cases a <;> simp [eqCells] at h
    | cons e b =>
      cases xs with
      | nil => exact hx.elim
      | cons u xs =>
        cases ys with
        | nil => exact hy.elim
        | cons v ys =>
          cases hp : eqCell c e with
          | none => cases a <;> cases b <;> simp [eqCells, hp] at h
          | some p =>
            have h1 := one hp hx.1 hy.1
            cases hq : eqCells a b with
            | none =>
              cases a with
              | nil =>
                cases b with
                | nil =>
                  simp only [eqCells, hp, Option.some.injEq] at h
                  cases xs with
                  | nil => rw [← h, h1]; simp [vsEq]
                  | cons _ _ => exact hx.2.elim
                | cons _ _ => simp [eqCells, hp] at h
              | cons _ _ => cases b <;> simp [eqCells, hp, hq] at h
            | some q =>
              have h2 := ih hq hx.2 hy.2
              cases a with
              | nil => simp [eqCells] at hq
              | cons _ _ =>
                cases b with
                | nil => simp [eqCells] at hq
                | cons _ _ =>
                  simp only [eqCells, hp, hq, Option.some.injEq] at h
                  rw [← h, h1, h2]; rfl

/-- '==' of a type that passes the test -/
theorem eqLaw_of [Laid] {t : TypeId} {ty : Option Ty} (h : eqTop P t ty = true) : ∀ z, ty = some z → EqLaw P t z.zero := fun z hz => by
  subst hz
  intro w0 a b xs ys r o1 o2 hka hkb hr cx w hx hy
  simp only [eqTop, Bool.and_eq_true, Bool.not_eq_true'] at h
  obtain ⟨⟨h1, h2⟩, h3⟩ := h
  have e : ∀ v, oneVal P t v = .agg v.toArray := fun v => by simp [oneVal, h3]
  have := eq_is (P := P) (w := w) 9 10000 (by omega) t z.zero h1 xs ys (kinds_vOk hka hx) (kinds_vOk hkb hy)
  rw [e, e] at this
  have hrr := eqCells_vsEq hr hx hy
  constructor
  · simp only [Sem.run_bind, run_eqGuard_agg w _ t _ _ _ _ h2, Result.andThen_ok, run_eql_struct, this, hrr]
  · simp only [Sem.run_bind, run_eqGuard_agg w _ t _ _ _ _ h2, Result.andThen_ok, run_neq_struct, this, hrr]
end
end Go.Sh

namespace Go.Sh
open Go Go.RowKit

/-- bounds of what comes in -/
def Ty.bd : (t : Ty) → t.den → Prop
  | .int _, x => -9223372036854775808 ≤ (x : Int) ∧ (x : Int) < 9223372036854775808
  | .bool, _ => True
  | .str, s => s.size ≤ 4611686018427387904
  | .pair a b, x => a.bd x.1 ∧ b.bd x.2
  | .slice _ e, xs => xs.length ≤ 4611686018427387904 ∧ ∀ x ∈ xs, e.bd x

def Ty.plain (P : Program) : Ty → Bool
  | .int k => k == .i64 || k == .u8
  | .bool => true
  | .str => true
  | .pair a b => a.plain P && b.plain P
  | .slice E e => Nat.ble 1 (P.bytesOf E) && e.plain P

theorem Ty.ok_bd {P : Program} : ∀ {t : Ty} {x : t.den}, t.plain P = true → t.ok P x → t.bd x
  | .int k, x, hp, h => by
    simp only [Ty.ok, Lit.wf, Bool.and_eq_true, decide_eq_true_eq] at h
    simp only [Ty.plain, Bool.or_eq_true, beq_iff_eq] at hp
    show -9223372036854775808 ≤ (x : Int) ∧ (x : Int) < 9223372036854775808
    rcases hp with rfl | rfl
    · have e1 : IntKind.i64.min = -9223372036854775808 := by decide
      have e2 : IntKind.i64.max = 9223372036854775807 := by decide
      rw [e1, e2] at h
      exact ⟨h.1, Int.lt_of_le_of_lt h.2 (by decide)⟩
    · have e1 : IntKind.u8.min = 0 := by decide
      have e2 : IntKind.u8.max = 255 := by decide
      rw [e1, e2] at h
      exact ⟨Int.le_trans (by decide) h.1, Int.lt_of_le_of_lt h.2 (by decide)⟩
  | .bool, _, _, _ => trivial
  | .str, s, _, h => by simp only [Ty.ok, reachBytes] at h; show s.size ≤ _; omega
  | .pair a b, x, hp, h => by
    simp only [Ty.plain, Bool.and_eq_true] at hp
    exact ⟨Ty.ok_bd hp.1 h.1, Ty.ok_bd hp.2 h.2⟩
  | .slice E e, xs, hp, h => by
    simp only [Ty.plain, Bool.and_eq_true, Nat.ble_eq] at hp
    refine ⟨?_, fun x hx => Ty.ok_bd hp.2 (h.2.2 x hx)⟩
    have h1 := h.1
    simp only [reachBytes] at h1
    have : List.length xs * 1 ≤ List.length xs * P.bytesOf E := Nat.mul_le_mul_left _ hp.1
    omega
end Go.Sh

