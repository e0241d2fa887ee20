/- The native forms of the functions that FnMigrated reaches, and their pure laws, part 2: FnMigrated is true for every input of bounded parts. No condition beyond the bounds that every input keeps. -/
import Derived.Test.YtfipolbgkppdjaaGreatDoorPuFnMigratedp1
set_option linter.unusedVariables false
set_option linter.unusedSimpArgs false
namespace Go.Sh.D
open Go Data
end Go.Sh.D
set_option linter.unusedVariables false
set_option linter.unusedSimpArgs false
namespace Go.Sh.D
open Go Data
end Go.Sh.D
set_option linter.unusedVariables false
set_option linter.unusedSimpArgs false
namespace Go.Sh.D
open Go Data
end Go.Sh.D
set_option linter.unusedVariables false
set_option linter.unusedSimpArgs false
namespace Go.Sh.D
open Go Data
end Go.Sh.D
set_option linter.unusedVariables false
set_option linter.unusedSimpArgs false
namespace Go.Sh.D
open Go Data
end Go.Sh.D
set_option linter.unusedVariables false
set_option linter.unusedSimpArgs false
namespace Go.Sh.D
open Go Data
end Go.Sh.D
set_option linter.unusedVariables false
set_option linter.unusedSimpArgs false
namespace Go.Sh.D
open Go Data
end Go.Sh.D
set_option linter.unusedVariables false
set_option linter.unusedSimpArgs false
namespace Go.Sh.D
open Go Data
end Go.Sh.D
set_option linter.unusedVariables false
set_option linter.unusedSimpArgs false
namespace Go.Sh.D
open Go Data
end Go.Sh.D
set_option linter.unusedVariables false
set_option linter.unusedSimpArgs false
namespace Go.Sh
open Go
namespace D
/-! ## Strings as lists -/
abbrev St (l : List UInt8) : ByteArray := ⟨l.toArray⟩

/-- the digits of a number; none for 0 -/
def digs (u : Nat) : List UInt8 := if u = 0 then [] else Lib.decDigits u

theorem digs_step (u : Nat) (h : u ≠ 0) : digs u = digs (u / 10) ++ [UInt8.ofNat (48 + u % 10)] := by
  unfold digs
  rw [if_neg h]
  rw [Lib.decDigits]
  split
  · rename_i h1
    have : u / 10 = 0 := by omega
    rw [if_pos this]
    have : u % 10 = u := by omega
    rw [this]; rfl
  · rename_i h1
    have : u / 10 ≠ 0 := by omega
    rw [if_neg this]

end D
end Go.Sh
set_option linter.unusedVariables false
set_option linter.unusedSimpArgs false
namespace Go.Sh
open Go Data
namespace D
theorem digs_len : ∀ (k u : Nat), u < 10 ^ k → (digs u).length ≤ k
  | 0, u, h => by
    have : u = 0 := by simpa using h
    subst this; simp [digs]
  | k + 1, u, h => by
    by_cases hu : u = 0
    · subst hu; simp [digs]
    · rw [digs_step u hu]
      have := digs_len k (u / 10) (by rw [Nat.pow_succ] at h; omega)
      simp; omega

end D
end Go.Sh
set_option linter.unusedVariables false
set_option linter.unusedSimpArgs false
namespace Go.Sh
open Go Data
namespace D
theorem digs_dec {u : Nat} (h : u ≠ 0) : digs u = Lib.decDigits u := by unfold digs; rw [if_neg h]

end D
end Go.Sh
set_option linter.unusedVariables false
set_option linter.unusedSimpArgs false
set_option maxHeartbeats 1000000
namespace Go.Sh
open Go Data
namespace D
end D
end Go.Sh
set_option linter.unusedVariables false
set_option linter.unusedSimpArgs false
set_option maxHeartbeats 2000000
namespace Go.Sh
open Go Data
namespace D
end D
end Go.Sh
set_option linter.unusedVariables false
set_option linter.unusedSimpArgs false
set_option maxHeartbeats 2000000
namespace Go.Sh
open Go Data
namespace D
end D
end Go.Sh
set_option linter.unusedVariables false
set_option linter.unusedSimpArgs false
set_option maxHeartbeats 2000000
namespace Go.Sh
open Go Data
namespace D
end D
end Go.Sh
set_option linter.unusedVariables false
set_option linter.unusedSimpArgs false
set_option maxHeartbeats 2000000
namespace Go.Sh
open Go Data
namespace D
end D
end Go.Sh
set_option linter.unusedVariables false
set_option linter.unusedSimpArgs false
set_option maxHeartbeats 2000000
namespace Go.Sh
open Go Data
namespace D
theorem itoa_all {n : Int} (h : ok n) : impl_FormatInt n = some (St (Lib.itoa n)) := by
  obtain ⟨h1, h2⟩ := (show -9223372036854775808 ≤ n ∧ n < 9223372036854775808 from h)
  unfold impl_FormatInt strconv_Itoa N.itoa
  rw [if_pos (by omega)]
  rfl

theorem itoa_len {n : Int} (h : ok n) : (Lib.itoa n).length ≤ 20 := by
  obtain ⟨h1, h2⟩ := (show -9223372036854775808 ≤ n ∧ n < 9223372036854775808 from h)
  have key : ∀ u : Nat, u ≤ 9223372036854775808 → (Lib.decDigits u).length ≤ 19 := fun u hu => by
    by_cases h0 : u = 0
    · subst h0; rw [Lib.decDigits_one (by omega)]; simp
    · rw [← digs_dec h0]; exact digs_len 19 u (by omega)
  unfold Lib.itoa
  split
  · have := key n.natAbs (by omega); simp; omega
  · have := key n.toNat (by omega); omega

/-! ## Loops that write a text, and that collect texts -/
def pieces {X : Type} (piece : Nat → X → List UInt8) : Nat → List X → List UInt8
  | _, [] => []
  | k, x :: r => piece k x ++ pieces piece (k + 1) r

theorem pieces_len {X : Type} {piece : Nat → X → List UInt8} {M : Nat} : ∀ (xs : List X) (k : Nat), (∀ k, ∀ x ∈ xs, (piece k x).length ≤ M) → (pieces piece k xs).length ≤ xs.length * M
  | [], k, h => by simp [pieces]
  | x :: r, k, h => by
    have h1 := h k x (by simp)
    have h2 := pieces_len r (k + 1) fun k y hy => h k y (by simp [hy])
    simp only [pieces, List.length_append, List.length_cons, Nat.add_mul, Nat.one_mul]
    omega

theorem coll_loop {X R : Type} (xs : List X) (f : X → ByteArray) {step : List ByteArray × Int → Option ((List ByteArray × Int) ⊕ R)} {fin : List ByteArray → Option R}
    (hstep : ∀ (k : Nat) (hk : k < xs.length) (acc : List ByteArray), acc.length = k → step (acc, (k : Int)) = some (.inl (acc ++ [f xs[k]], ((k + 1 : Nat) : Int))))
    (hend : ∃ r, fin (xs.map f) = some r ∧ step (xs.map f, (xs.length : Int)) = some (.inr r)) : loopF step ([], 0) = fin (xs.map f) := by
  have key : ∀ (m k : Nat), k + m = xs.length → loopF step ((xs.take k).map f, (k : Int)) = fin (xs.map f) := by
    intro m
    induction m with
    | zero =>
      intro k hk
      have : k = xs.length := by omega
      subst this
      obtain ⟨r, h1, h2⟩ := hend
      rw [List.take_length, h1]
      exact loopF_inr h2
    | succ m ih =>
      intro k hk
      have hk' : k < xs.length := by omega
      rw [loopF_inl (hstep k hk' _ (by simp; omega)), ← ih (k + 1) (by omega), List.take_succ_eq_append_getElem hk', List.map_append]
      rfl
  exact key xs.length 0 (by omega)

def sepP {X : Type} (c : UInt8) (f : X → List UInt8) : Nat → X → List UInt8 := fun k x => (if k = 0 then [] else [c]) ++ f x

theorem pieces_tail {X : Type} (c : UInt8) (f : X → List UInt8) : ∀ (r : List X) (k : Nat), 0 < k → pieces (sepP c f) k r = Lib.joinTail [c] (r.map f)
  | [], k, h => rfl
  | x :: r, k, h => by
    rw [pieces, pieces_tail c f r (k + 1) (by omega)]
    unfold sepP Lib.joinTail
    rw [if_neg (by omega)]
    simp

theorem pieces_join {X : Type} (c : UInt8) (f : X → List UInt8) (l : List X) : pieces (sepP c f) 0 l = Lib.join (l.map f) [c] := by
  cases l with
  | nil => rfl
  | cons x r =>
    rw [List.map_cons, Lib.join_cons, pieces, pieces_tail c f r 1 (by omega)]
    unfold sepP
    rw [if_pos rfl]; rfl

end D
end Go.Sh
set_option linter.unusedVariables false
set_option linter.unusedSimpArgs false
set_option maxHeartbeats 2000000
namespace Go.Sh
open Go Data
namespace D
theorem fitsB {xs : List ByteArray} {y : ByteArray} (h : xs.length ≤ 1048576) : N.fits xs [y] 16 := by
  show (xs.length + 1) * 16 ≤ 140737488355328
  omega

def numP (p : List Int) : List UInt8 := pieces (sepP 58 Lib.itoa) 0 p

theorem sep_len {p : List Int} (hp : ok p) : ∀ k, ∀ x ∈ p, (sepP 58 Lib.itoa k x).length ≤ 21 := fun k x hx => by
  have := itoa_len (hp.2 x hx)
  unfold sepP
  split <;> simp <;> omega

theorem numP_len {p : List Int} (hp : ok p) : (numP p).length ≤ 22020096 := by
  have h1 := pieces_len p 0 (sep_len hp)
  have h2 := hp.1
  unfold numP
  omega

theorem join_st {ls : List (List UInt8)} {sep : List UInt8} (h1 : ls.length ≤ 1048576) (h2 : (Lib.join ls sep).length ≤ 140737488355328) : strings_Join (ls.map St) (St sep) = some (St (Lib.join ls sep)) := by
  have e : (ls.map St).map (·.data.toList) = ls := by
    rw [List.map_map]
    have : ((fun s : ByteArray => s.data.toList) ∘ St) = id := by funext l; rfl
    rw [this, List.map_id]
  unfold strings_Join N.joinS
  show (if (ls.map St).length ≤ _ ∧ (Lib.join ((ls.map St).map (·.data.toList)) sep).length ≤ _ then some (St (Lib.join ((ls.map St).map (·.data.toList)) sep)) else none) = _
  rw [e, if_pos ⟨by rw [List.length_map]; omega, h2⟩]

theorem joinWith_is {p : List Int} (hp : ok p) : impl_joinWith p (N.lit [58]) = some (St (numP p)) := by
  have hl := numP_len hp
  have hpl := hp.1
  have ej : numP p = Lib.join (p.map Lib.itoa) [58] := pieces_join 58 Lib.itoa p
  unfold impl_joinWith
  refine (coll_loop p (fun x => St (Lib.itoa x)) (fin := fun ps => N.bind (strings_Join ps (N.lit [58])) fun r2 => some r2) (fun k hk acc ha => ?_) ?_).trans ?_
  · have h0 : (0 : Int) ≤ (k : Int) := by omega
    have h1 : (k : Int) < (p.length : Int) := by omega
    simp only [lt_d, len_d, cond_dec, if_pos h1, nite_pos h0, nite_pos h1, rd_at p k hk, itoa_all (hp.2 _ (List.getElem_mem hk)), bind_some', next_id hk (by omega)]
    rw [nite_pos (fitsB (by omega))]; rfl
  · have := join_st (ls := p.map Lib.itoa) (sep := [58]) (by simp; omega) (by rw [← ej]; omega)
    rw [List.map_map] at this
    refine ⟨St (numP p), ?_, ?_⟩
    · show N.bind (strings_Join (p.map (St ∘ Lib.itoa)) (St [58])) _ = _
      rw [this, ej]; rfl
    · simp only [lt_d, len_d, cond_dec]
      rw [if_neg (by omega)]
      show Option.map Sum.inr (N.bind (strings_Join (p.map (St ∘ Lib.itoa)) (St [58])) _) = _
      rw [this, ej]; rfl
  · have := join_st (ls := p.map Lib.itoa) (sep := [58]) (by simp; omega) (by rw [← ej]; omega)
    rw [List.map_map] at this
    show N.bind (strings_Join (p.map (St ∘ Lib.itoa)) (St [58])) _ = _
    rw [this, ej]; rfl

def oldL (x : List (List Int)) : List UInt8 := if x.length = 0 then [45] else pieces (sepP 32 numP) 0 x

theorem sep_len2 {x : List (List Int)} (hx : ok x) : ∀ k, ∀ p ∈ x, (sepP 32 numP k p).length ≤ 22020097 := fun k p hp => by
  have := numP_len (hx.2 p hp)
  unfold sepP
  split <;> simp <;> omega

theorem oldP_len {x : List (List Int)} (hx : ok x) : (pieces (sepP 32 numP) 0 x).length ≤ 25000000000000 := by
  have h1 := pieces_len x 0 (sep_len2 hx)
  have h2 := hx.1
  have h3 : x.length * 22020097 ≤ 1048576 * 22020097 := Nat.mul_le_mul_right _ h2
  omega

theorem impl_OldText_is {x : List (List Int)} (hx : ok x) : impl_OldText x = some (St (oldL x)) := by
  have hl := oldP_len hx
  have hxl := hx.1
  have ej : pieces (sepP 32 numP) 0 x = Lib.join (x.map numP) [32] := pieces_join 32 numP x
  unfold impl_OldText oldL
  rw [eq_d, len_d, cond_dec]
  by_cases h : x.length = 0
  · rw [if_pos (by omega), if_pos h]; rfl
  rw [if_neg (by omega), if_neg h]
  have hj := join_st (ls := x.map numP) (sep := [32]) (by simp; omega) (by rw [← ej]; omega)
  rw [List.map_map] at hj
  refine (coll_loop x (fun p => St (numP p)) (fin := fun ps => N.bind (strings_Join ps (N.lit [32])) fun r2 => some r2) (fun k hk acc ha => ?_) ?_).trans ?_
  · have h0 : (0 : Int) ≤ (k : Int) := by omega
    have h1 : (k : Int) < (x.length : Int) := by omega
    simp only [lt_d, len_d, cond_dec, if_pos h1, nite_pos h0, nite_pos h1, rd_at x k hk, joinWith_is (hx.2 _ (List.getElem_mem hk)), bind_some', next_id hk (by omega)]
    rw [nite_pos (fitsB (by omega))]; rfl
  · refine ⟨St (pieces (sepP 32 numP) 0 x), ?_, ?_⟩
    · show N.bind (strings_Join (x.map (St ∘ numP)) (St [32])) _ = _
      rw [hj, ej]; rfl
    · simp only [lt_d, len_d, cond_dec]
      rw [if_neg (by omega)]
      show Option.map Sum.inr (N.bind (strings_Join (x.map (St ∘ numP)) (St [32])) _) = _
      rw [hj, ej]; rfl
  · show N.bind (strings_Join (x.map (St ∘ numP)) (St [32])) _ = _
    rw [hj, ej]; rfl

end D
end Go.Sh
set_option linter.unusedVariables false
set_option linter.unusedSimpArgs false
set_option synthInstance.maxSize 100000
set_option maxHeartbeats 4000000
namespace Go.Sh
open Go Data
namespace D
/-! ## Older recordings -/
theorem toOld_map (l : List Entry) : toOldP l = l.map fun e => [e.1, e.2.2] := by
  unfold toOldP
  induction l with
  | nil => rfl
  | cons e l ih => rw [List.flatMap_cons, ih]; rfl

theorem toOld_len (l : List Entry) : (toOldP l).length = l.length := by rw [toOld_map, List.length_map]

theorem toOld_rd {E : List Entry} {n : Nat} (h : n < E.length) : N.rd (toOldP E) (n : Int) [] = [(E[n]).1, (E[n]).2.2] := by
  rw [toOld_map, rd_at _ _ (by simpa using h)]
  simp

theorem simM {l : List Op} {v : Visit} (hl : ok l) (hv : ok v) (hsc : scriptP l = true) {E : List Entry} {T : List State} {vs : VS → Option (VS ⊕ (List Entry × List State))}
    (v_done : ∀ s : VS, Rec v s → (l.length : Int) ≤ s.2.2.1 → vs s = some (.inr (s.1, s.2.1)))
    (v_ask : ∀ s : VS, Rec v s → ¬ (l.length : Int) ≤ s.2.2.1 → 0 < (wantP l s.2.2).1 → ∀ x t, spec_LiveValue v (wantP l s.2.2) (N.len s.1) = some x → spec_StepState l s.2.2 x = some t → vs s = some (.inl (s.1 ++ [((wantP l s.2.2).1, (wantP l s.2.2).2, x)], s.2.1 ++ [t], t)))
    (v_skip : ∀ s : VS, Rec v s → ¬ (l.length : Int) ≤ s.2.2.1 → ¬ 0 < (wantP l s.2.2).1 → ∀ t, spec_StepState l s.2.2 0 = some t → vs s = some (.inl (s.1, s.2.1 ++ [t], t))) :
    ∀ (m : Nat) (s : VS), Rec v s → 20 - s.2.2.1.toNat = m → loopF vs s = some (E, T) → s.1 <+: E ∧ loopF (mStep l (toOldP E)) (s.1, s.2.2) = some (mEnd (toOldP E) E) := by
  intro m
  induction m using Nat.strongRecOn with
  | ind m ih =>
    intro s hs hm hloop
    have hst := hs.st
    have hp := state_pos hst
    by_cases hd : (l.length : Int) ≤ s.2.2.1
    · rw [loopF_inr (v_done s hs hd)] at hloop
      simp only [Option.some.injEq, Prod.mk.injEq] at hloop
      obtain ⟨rfl, rfl⟩ := hloop
      refine ⟨List.prefix_refl _, loopF_inr ?_⟩
      unfold mStep
      rw [if_pos hd]
    · have hc := can_of hsc hst hd
      by_cases hw : 0 < (wantP l s.2.2).1
      · have hlen := hs.e2
        obtain ⟨x, ex, hx⟩ := (live_is hv (wantP l s.2.2) (n := N.len s.1) (by rw [len_d]; omega)).2
        obtain ⟨t, et, ht⟩ := can_step hl hc x
        have hr := rec_ask hs hsc hd hw hx ht
        have hp2 := state_pos ht.1
        have hlt := ht.2
        rw [loopF_inl (v_ask s hs hd hw x t ex et)] at hloop
        obtain ⟨h1, h2⟩ := ih _ (by simp only; omega) _ hr rfl hloop
        obtain ⟨r, hE⟩ := h1
        have hn : s.1.length < E.length := by rw [← hE]; simp
        have hat : E[s.1.length] = ((wantP l s.2.2).1, (wantP l s.2.2).2, x) := by
          simp only [← hE, List.append_assoc]
          rw [List.getElem_append_right (Nat.le_refl _)]
          simp
        refine ⟨⟨_, by rw [← hE, List.append_assoc]⟩, ?_⟩
        have hpair : pairAt (toOldP E) s.1 = [(wantP l s.2.2).1, x] := by
          unfold pairAt
          rw [toOld_rd hn, hat]
        have hstep : mStep l (toOldP E) (s.1, s.2.2) = some (.inl (s.1 ++ [((wantP l s.2.2).1, (wantP l s.2.2).2, x)], t)) := by
          unfold mStep
          simp only [hpair]
          rw [if_neg hd, if_pos hw, if_neg (by rw [toOld_len]; omega), if_neg (by simp), if_neg (by simp [N.rd])]
          have e : N.rd [(wantP l s.2.2).1, x] 1 0 = x := rfl
          rw [e, et, bind_some']
        rw [loopF_inl hstep]
        exact h2
      · obtain ⟨t, et, ht⟩ := can_step hl hc 0
        have hr := rec_skip hs ht
        have hp2 := state_pos ht.1
        have hlt := ht.2
        rw [loopF_inl (v_skip s hs hd hw t et)] at hloop
        obtain ⟨h1, h2⟩ := ih _ (by simp only; omega) _ hr rfl hloop
        refine ⟨h1, ?_⟩
        have hstep : mStep l (toOldP E) (s.1, s.2.2) = some (.inl (s.1, t)) := by
          unfold mStep
          rw [if_neg hd, if_neg hw, et, bind_some']
        rw [loopF_inl hstep]
        exact h2

theorem entries_of {E : List Entry} (h1 : E.length ≤ 16) (h2 : ∀ e ∈ E, entryP e = true) : entriesP E = true := by
  unfold entriesP
  simp only [Bool.and_eq_true, decide_eq_true_eq, List.all_eq_true]
  exact ⟨h1, h2⟩

theorem migrate_record {l : List Op} {v : Visit} (hl : ok l) (hv : ok v) (hsc : scriptP l = true) (hvp : visitP v = true) {E : List Entry} {T : List State} (hE : impl_visited l v = some (E, T)) (h16 : E.length ≤ 16) (hep : entriesP E = true) :
    migrateP l (toOldP E) = (E, true) := by
  have hll := hl.1
  unfold migrateP
  rw [if_pos ⟨hsc, by rw [toOld_len]; exact h16⟩]
  unfold impl_visited at hE
  rw [impl_StartState_is, bind_some', impl_IsScript_is (by omega), bind_some', impl_IsVisit_is hv, bind_some', hsc, hvp, not_b, Bool.not_true, cond_false, cond_false] at hE
  have key := (simM hl hv hsc ?ga ?gb ?gc _ ([], [startP], startP) ⟨start_state, by simp [startP], by simp, fun _ h => (by cases h), by simp [startP], by simp, fun t ht => (by simp only [List.mem_singleton] at ht; subst ht; exact start_state)⟩ rfl hE).2
  case ga =>
    intro s hs hd
    simp only [impl_IsDone, bind_some', ge_d, len_d, not_d, cond_dec, hd, not_true_eq_false, if_false]
  case gb =>
    intro s hs hd hw x t ex et
    have hso := state_ok hs.st
    have hlen := hs.e2; have htr := hs.tr1; have hp := state_pos hs.st
    have hlv := (live_is hv (wantP l s.2.2) (n := N.len s.1) (by rw [len_d]; omega)).1
    have hw0 : ¬ (wantP l s.2.2).1 = 0 := by omega
    simp only [impl_IsDone, bind_some', ge_d, len_d, not_d, cond_dec, hd, not_false_eq_true, if_true, impl_WantOf_is hl hso, ne_d, hw0]
    rw [← len_d, hlv, ex, bind_some', nite_pos (fitsN (by simp; omega) (by omega)), step_same hl hso, et, bind_some', nite_pos (fitsN (by simp; omega) (by omega))]
    rfl
  case gc =>
    intro s hs hd hw t et
    have hso := state_ok hs.st
    have htr := hs.tr1; have hp := state_pos hs.st
    have hin := want_in l s.2.2
    have hw0 : (wantP l s.2.2).1 = 0 := by omega
    simp only [impl_IsDone, bind_some', ge_d, len_d, not_d, cond_dec, hd, not_false_eq_true, if_true, impl_WantOf_is hl hso, ne_d, hw0, not_true_eq_false, if_false]
    rw [step_same hl hso, et, bind_some', nite_pos (fitsN (by simp; omega) (by omega))]
    rfl
  have e : ((([], [startP], startP) : VS).1, (([], [startP], startP) : VS).2.2) = (([], startP) : List Entry × State) := rfl
  rw [e] at key
  rw [key]
  unfold mEnd
  rw [if_pos (toOld_len E).symm, if_pos hep]; rfl

end D
end Go.Sh
set_option linter.unusedVariables false
set_option linter.unusedSimpArgs false
set_option synthInstance.maxSize 100000
set_option maxHeartbeats 4000000
namespace Go.Sh
open Go Data
namespace D
theorem simR {l : List Op} {tr : List (List Int)} (hl : ok l) (ht : ok tr) (hsc : scriptP l = true) (h16 : tr.length ≤ 16) {y : List Entry} {ps : PS → Option (PS ⊕ (Played × List State))}
    (p_done : ∀ s : PS, PRun y s → (l.length : Int) ≤ s.2.2.2.1 → s.2.1 = y.length → ps s = some (.inr ((0, 0, s.2.2.2), s.1)))
    (p_ask : ∀ s : PS, PRun y s → ¬ (l.length : Int) ≤ s.2.2.2.1 → 0 < (wantP l s.2.2.2).1 → ∀ (n : Nat) (hn : n < y.length), s.2.1 = n → (y[n]).1 = (wantP l s.2.2.2).1 → (y[n]).2.1 = (wantP l s.2.2.2).2 → ∀ t, spec_StepState l s.2.2.2 (y[n]).2.2 = some t → ps s = some (.inl (s.1 ++ [t], s.2.1 + 1, s.2.2.1, t)))
    (p_skip : ∀ s : PS, PRun y s → ¬ (l.length : Int) ≤ s.2.2.2.1 → ¬ 0 < (wantP l s.2.2.2).1 → ∀ t, spec_StepState l s.2.2.2 0 = some t → ps s = some (.inl (s.1 ++ [t], s.2.1, s.2.2.1, t))) :
    ∀ (m : Nat) (s : List Entry × State), Run tr s → 20 - s.2.1.toNat = m → loopF (mStep l tr) s = some (y, true) →
      s.1 <+: y ∧ y.length = tr.length ∧ entriesP y = true ∧ (∀ (n : Nat) (hn : n < y.length), s.1.length ≤ n → N.rd tr (n : Int) [] = [(y[n]).1, (y[n]).2.2]) ∧
        ∀ p : PS, PRun y p → p.2.2.2 = s.2 → p.2.1 = s.1.length → ∃ f T', loopF ps p = some ((0, 0, f), T') ∧ stateP f = true := by
  intro m
  induction m using Nat.strongRecOn with
  | ind m ih =>
    intro s hs hm hloop
    have hst := hs.st
    have hp := state_pos hst
    have hlen := hs.len
    have hget := mStep_gets hl ht hsc h16 hs
    by_cases hd : (l.length : Int) ≤ s.2.1
    · have hstep : mStep l tr s = some (.inr (mEnd tr s.1)) := by unfold mStep; rw [if_pos hd]
      rw [loopF_inr hstep] at hloop
      unfold mEnd at hloop
      by_cases h1 : s.1.length = tr.length
      · rw [if_pos h1] at hloop
        by_cases h2 : entriesP s.1 = true
        · rw [if_pos h2] at hloop
          simp only [Option.some.injEq, Prod.mk.injEq, and_true] at hloop
          subst hloop
          refine ⟨List.prefix_refl _, h1, h2, fun n hn h => by omega, fun p hpr e1 e2 => ⟨s.2, p.1, ?_, hst⟩⟩
          rw [loopF_inr (p_done p hpr (by rw [e1]; exact hd) e2), e1]
        · rw [if_neg h2] at hloop
          simp at hloop
      · rw [if_neg h1] at hloop
        simp at hloop
    · have hc := can_of hsc hst hd
      by_cases hw : 0 < (wantP l s.2).1
      · have bad : mStep l tr s = some (.inr ([], false)) → False := fun h => by
          rw [loopF_inr h] at hloop; simp at hloop
        by_cases c1 : s.1.length = tr.length
        · exact (bad (by unfold mStep; rw [if_neg hd, if_pos hw, if_pos c1])).elim
        by_cases c2 : (pairAt tr s.1).length = 2
        case neg => exact (bad (by unfold mStep; rw [if_neg hd, if_pos hw, if_neg c1, if_pos c2])).elim
        by_cases c3 : N.rd (pairAt tr s.1) 0 0 = (wantP l s.2).1
        case neg => exact (bad (by unfold mStep; rw [if_neg hd, if_pos hw, if_neg c1, if_neg (by simpa using c2), if_pos c3])).elim
        obtain ⟨t, et, htt⟩ := can_step hl hc (N.rd (pairAt tr s.1) 1 0)
        have hstep : mStep l tr s = some (.inl (s.1 ++ [((wantP l s.2).1, (wantP l s.2).2, N.rd (pairAt tr s.1) 1 0)], t)) := by
          unfold mStep
          rw [if_neg hd, if_pos hw, if_neg c1, if_neg (by simpa using c2), if_neg (by simpa using c3), et, bind_some']
        obtain ⟨r, er, hr⟩ := hget
        rw [hstep] at er
        simp only [Option.some.injEq] at er
        subst er
        rw [loopF_inl hstep] at hloop
        obtain ⟨h1, h2, h3, h4, h5⟩ := ih _ (by have := hr.2; simp only at this ⊢; omega) _ hr.1 rfl hloop
        obtain ⟨z, hE⟩ := h1
        have hn : s.1.length < y.length := by rw [← hE]; simp
        have hat : y[s.1.length] = ((wantP l s.2).1, (wantP l s.2).2, N.rd (pairAt tr s.1) 1 0) := by
          simp only [← hE, List.append_assoc]
          rw [List.getElem_append_right (Nat.le_refl _)]
          simp
        have hpair : pairAt tr s.1 = [(wantP l s.2).1, N.rd (pairAt tr s.1) 1 0] := by
          generalize pairAt tr s.1 = q at c2 c3
          match q, c2 with
          | [a, b], _ =>
            have : a = (wantP l s.2).1 := c3
            rw [← this]; rfl
        refine ⟨⟨_, by rw [← hE, List.append_assoc]⟩, h2, h3, fun n hn2 hge => ?_, fun p hpr e1 e2 => ?_⟩
        · by_cases he : n = s.1.length
          · subst he
            rw [hat]
            exact hpair
          · exact h4 n hn2 (by simp; omega)
        · have hat1 : (y[s.1.length]).1 = (wantP l p.2.2.2).1 := by rw [hat, e1]
          have hat2 : (y[s.1.length]).2.1 = (wantP l p.2.2.2).2 := by rw [hat, e1]
          have hat3 : (y[s.1.length]).2.2 = N.rd (pairAt tr s.1) 1 0 := by rw [hat]
          have htr := hpr.tr
          have hlt := htt.2
          rw [e1] at htr
          obtain ⟨f, T', hT, hf⟩ := h5 (p.1 ++ [t], p.2.1 + 1, p.2.2.1, t) ⟨htt.1, by have := hpr.n0; simp only; omega, by simp only; omega, by simp; omega⟩ rfl (by simp only [List.length_append, List.length_cons, List.length_nil]; omega)
          exact ⟨f, T', by rw [loopF_inl (p_ask p hpr (by rw [e1]; exact hd) (by rw [e1]; exact hw) s.1.length hn e2 hat1 hat2 t (by rw [hat3, e1]; exact et)), hT], hf⟩
      · obtain ⟨t, et, htt⟩ := can_step hl hc 0
        have hstep : mStep l tr s = some (.inl (s.1, t)) := by
          unfold mStep
          rw [if_neg hd, if_neg hw, et, bind_some']
        obtain ⟨r, er, hr⟩ := hget
        rw [hstep] at er
        simp only [Option.some.injEq] at er
        subst er
        rw [loopF_inl hstep] at hloop
        obtain ⟨h1, h2, h3, h4, h5⟩ := ih _ (by have := hr.2; simp only at this ⊢; omega) _ hr.1 rfl hloop
        refine ⟨h1, h2, h3, h4, fun p hpr e1 e2 => ?_⟩
        have htr := hpr.tr
        have hlt := htt.2
        rw [e1] at htr
        obtain ⟨f, T', hT, hf⟩ := h5 (p.1 ++ [t], p.2.1, p.2.2.1, t) ⟨htt.1, hpr.n0, hpr.n1, by simp; omega⟩ rfl e2
        exact ⟨f, T', by rw [loopF_inl (p_skip p hpr (by rw [e1]; exact hd) (by rw [e1]; exact hw) t (by rw [e1]; exact et)), hT], hf⟩

theorem migrate_cases {l : List Op} {tr : List (List Int)} (hl : ok l) (ht : ok tr) : migrateP l tr = ([], false) ∨ ∃ y, migrateP l tr = (y, true) := by
  unfold migrateP
  split
  · rename_i h
    have : Gets (fun r => r = ([], false) ∨ ∃ y : List Entry, r = (y, true)) (loopF (mStep l tr) ([], startP)) := by
      refine Gets.loop (Run tr) (fun s => 20 - s.2.1.toNat) (fun s hs => ?_) _ ⟨start_state, by simp, fun _ h => by cases h⟩
      obtain ⟨r, e, hr⟩ := mStep_gets hl ht h.1 h.2 hs
      refine ⟨r, e, ?_⟩
      cases r with
      | inl s' => exact hr
      | inr q =>
        show q = ([], false) ∨ _
        unfold mStep at e
        split at e
        · simp only [Option.some.injEq, Sum.inr.injEq] at e
          rw [← e]
          unfold mEnd
          split
          · split
            · exact .inr ⟨_, rfl⟩
            · exact .inl rfl
          · exact .inl rfl
        · rename_i hd
          have hc := can_of h.1 hs.st hd
          split at e
          · split at e
            · simp only [Option.some.injEq, Sum.inr.injEq] at e; exact .inl e.symm
            · split at e
              · simp only [Option.some.injEq, Sum.inr.injEq] at e; exact .inl e.symm
              · split at e
                · simp only [Option.some.injEq, Sum.inr.injEq] at e; exact .inl e.symm
                · obtain ⟨t, et, _⟩ := can_step hl hc (N.rd (pairAt tr s.1) 1 0)
                  rw [et, bind_some'] at e
                  simp at e
          · obtain ⟨t, et, _⟩ := can_step hl hc 0
            rw [et, bind_some'] at e
            simp at e
    obtain ⟨r, e, hr⟩ := this
    rw [e]
    exact hr
  · exact .inl rfl

theorem migrate_back {l : List Op} {tr : List (List Int)} (hl : ok l) (ht : ok tr) {y : List Entry} (h : migrateP l tr = (y, true)) : tr = toOldP y ∧ entriesP y = true ∧ ∃ f, impl_Replay l y = some (0, 0, f) := by
  have hll := hl.1
  unfold migrateP at h
  split at h
  case isFalse => simp at h
  rename_i hc
  obtain ⟨hsc, h16⟩ := hc
  obtain ⟨r, er, _⟩ := loop_m hl ht hsc h16
  rw [er] at h
  have h : r = (y, true) := h
  subst h
  have base := fun (ps : PS → Option (PS ⊕ (Played × List State))) p_done p_ask p_skip => simR (y := y) hl ht hsc h16 (ps := ps) p_done p_ask p_skip _ ([], startP) ⟨start_state, by simp, fun _ h => by cases h⟩ rfl er
  have hep : entriesP y = true ∧ y.length = tr.length ∧ ∀ (n : Nat) (hn : n < y.length), N.rd tr (n : Int) [] = [(y[n]).1, (y[n]).2.2] := by
    have := base (fun s => if (l.length : Int) ≤ s.2.2.2.1 then some (.inr ((0, 0, s.2.2.2), s.1)) else if 0 < (wantP l s.2.2.2).1 then N.bind (spec_StepState l s.2.2.2 ((y.getD s.2.1.toNat (0, (0, 0, 0), 0)).2.2)) fun t => some (.inl (s.1 ++ [t], s.2.1 + 1, s.2.2.1, t)) else N.bind (spec_StepState l s.2.2.2 0) fun t => some (.inl (s.1 ++ [t], s.2.1, s.2.2.1, t)))
      (fun s _ hd _ => by rw [if_pos hd]) (fun s _ hd hw n hn e1 e2 e3 t et => by
        rw [if_neg hd, if_pos hw]
        have : y.getD s.2.1.toNat (0, (0, 0, 0), 0) = y[n] := by rw [e1]; simp [List.getD, hn]
        rw [this, et, bind_some']) (fun s _ hd hw t et => by rw [if_neg hd, if_neg hw, et, bind_some'])
    exact ⟨this.2.2.1, this.2.1, fun n hn => this.2.2.2.1 n hn (Nat.zero_le _)⟩
  obtain ⟨hep, hyl, hat⟩ := hep
  refine ⟨?_, hep, ?_⟩
  · rw [toOld_map]
    apply List.ext_getElem
    · simp [hyl]
    · intro n h1 h2
      have hn : n < y.length := by omega
      have := hat n hn
      rw [rd_at tr n h1] at this
      rw [this]; simp
  · have hel := entriesP_len hep
    have key : ∃ f T', impl_played l y = some ((0, 0, f), T') ∧ stateP f = true := by
      unfold impl_played
      rw [impl_StartState_is, bind_some', impl_IsScript_is (by omega), bind_some', impl_AreEntries_is (by omega), bind_some', hsc, hep, not_b, Bool.not_true, cond_false, cond_false]
      refine (base _ ?gd ?ge ?gf).2.2.2.2 ([startP], 0, (0, 0, 0, [], [], []), startP) ⟨start_state, by simp, by simp, by simp [startP]⟩ rfl rfl
      case gd =>
        intro s hs hd hn
        simp only [impl_IsDone, bind_some', ge_d, len_d, not_d, cond_dec, hd, not_true_eq_false, if_false, lt_d, hn, Int.lt_irrefl]
        rfl
      case ge =>
        intro s hs hd hw n hn e1 e2 e3 t et
        have hso := state_ok hs.st
        have htr := hs.tr; have hp := state_pos hs.st
        have hw0 : ¬ (wantP l s.2.2.2).1 = 0 := by omega
        have g0 : ¬ (n : Int) = (y.length : Int) := by omega
        have g1 : (0 : Int) ≤ (n : Int) := by omega
        have g2 : (n : Int) < (y.length : Int) := by omega
        have g3 : N.add .i64 (n : Int) 1 = (n : Int) + 1 := add_id (by omega) (by omega)
        have e4 : N.both (N.eq (((y[n]).2.1).1) (wantP l s.2.2.2).2.1) (N.both (N.eq (((y[n]).2.1).2.1) (wantP l s.2.2.2).2.2.1) (N.eq (((y[n]).2.1).2.2) (wantP l s.2.2.2).2.2.2)) = true := by
          rw [addr3, e3]; exact decide_eq_true rfl
        simp only [impl_IsDone, bind_some', ge_d, len_d, not_d, cond_dec, hd, not_false_eq_true, if_true, impl_WantOf_is hl hso, ne_d, eq_d, hw0, e1, g0, if_false, ite_if, g1, g2, rd_at y n hn, e2, not_true_eq_false]
        simp only [eq_d] at e4
        rw [e4]
        simp only [not_b, Bool.not_true, cond_false]
        rw [step_same hl hso, et, bind_some', if_pos (fitsN (by simp; omega) (by omega)), g3]
        rfl
      case gf =>
        intro s hs hd hw t et
        have hso := state_ok hs.st
        have htr := hs.tr; have hp := state_pos hs.st
        have hin := want_in l s.2.2.2
        have hw0 : (wantP l s.2.2.2).1 = 0 := by omega
        simp only [impl_IsDone, bind_some', ge_d, len_d, not_d, cond_dec, hd, not_false_eq_true, if_true, impl_WantOf_is hl hso, ne_d, hw0, not_true_eq_false, if_false]
        rw [step_same hl hso, et, bind_some', nite_pos (fitsN (by simp; omega) (by omega))]
        rfl
    obtain ⟨f, T', h1, h2⟩ := key
    refine ⟨f, ?_⟩
    unfold impl_Replay
    rw [h1, bind_some', impl_copyState_is (state_ok h2)]
    rfl

end D
end Go.Sh
set_option linter.unusedVariables false
set_option linter.unusedSimpArgs false
set_option synthInstance.maxSize 100000
set_option maxHeartbeats 4000000
namespace Go.Sh
open Go Data
namespace D
/-! ## What FnMigrated draws -/
theorem rec_few {l : List Op} {v : Visit} (hl : ok l) (hv : ok v) : Gets (fun r : List Entry × Int × List Int × List Int × List Int => few 16 r.1) (spec_RecordVisit l v) :=
  (record_is hl hv).2.mono fun r hr => ⟨hr.e2, fun e he => entryP_ok (hr.ent e he)⟩
theorem vis4 {a : List Version} {t s : Int} {i : List Int} {c : l1Cur} (h : few 9 a ∧ ok t ∧ ok s ∧ few 4 i ∧ curOk c) : ok ((a, t, s, i) : Visit) := ⟨h.1.ok (by omega), h.2.1, h.2.2.1, h.2.2.2.1.ok (by omega)⟩
theorem spec_l13Entries_is {c : l1Cur} (h : curOk c) : Gets (fun r => few 16 r.1 ∧ curOk r.2) (spec_l13Entries c) := by
  unfold spec_l13Entries
  refine Gets.bind (spec_l10Draw_is h) fun r1 ⟨a1, h1⟩ => Gets.bind (spec_l12Draw_is h1) fun r2 hr2 => Gets.bind (rec_few (a1.ok (by omega)) (vis4 hr2)) fun r3 a3 => Gets.cond (fun hp => ?_) fun _ => Gets.pure ⟨a3, hr2.2.2.2.2⟩
  have hp' : 0 < N.len r3.1 := by simpa [gt_d] using hp
  have z : ok (((0 : Int), ((0 : Int), (0 : Int), (0 : Int)), (0 : Int)) : Entry) := by simp [ok]
  refine Gets.bind (spec_l1Below_is hr2.2.2.2.2 hp') fun r4 ⟨a4, h4⟩ => Gets.bind (spec_l1Below_is h4 (by omega)) fun r5 ⟨a5, h5⟩ => ?_
  have he := few.rd (i := r4.1) a3 z
  refine Gets.cond (fun _ => ?_) fun _ => Gets.cond (fun _ => ?_) fun _ => Gets.cond (fun _ => ?_) fun _ => Gets.pure ⟨a3, h5⟩
  · exact Gets.bind (spec_l1Int_is h5 (by simp) (by simp [ok])) fun r6 ⟨h6, h7⟩ => Gets.ite a4.1 (Gets.ite a4.2 (Gets.let_ (Gets.pure ⟨a3.set ⟨h6.1, he.2.1, he.2.2⟩, h7⟩)))
  · exact Gets.bind (spec_l1Int_is h5 (by simp) (by simp [ok])) fun r6 ⟨h6, h7⟩ => Gets.ite a4.1 (Gets.ite a4.2 (Gets.let_ (Gets.pure ⟨a3.set ⟨he.1, he.2.1, h6.1⟩, h7⟩)))
  · exact Gets.bind (spec_l4Any_is h5) fun r6 ⟨h6, h7⟩ => Gets.ite a4.1 (Gets.ite a4.2 (Gets.let_ (Gets.pure ⟨a3.set ⟨he.1, h6, he.2.2⟩, h7⟩)))
theorem spec_DrawReplay_is {x : List Int} (h : x.length ≤ 1048576) : Gets (fun r => ok r.1 ∧ few 17 r.2) (spec_DrawReplay x) := by
  unfold spec_DrawReplay
  refine Gets.bind (spec_l1New_is h) fun c hc => Gets.bind (spec_l10Draw_is hc) fun r2 ⟨a2, h2⟩ => Gets.bind (spec_l12Draw_is h2) fun r3 hr3 => Gets.bind (rec_few (a2.ok (by omega)) (vis4 hr3)) fun r4 a4 => Gets.bind (spec_l1Below_is hr3.2.2.2.2 (by omega)) fun r5 ⟨a5, h5⟩ => ?_
  have z : ok (((0 : Int), ((0 : Int), (0 : Int), (0 : Int)), (0 : Int)) : Entry) := by simp [ok]
  have o2 : ok r2.1 := a2.ok (by omega)
  have f4 : few 17 r4.1 := few.mono a4 (by omega)
  have l4 := a4.1
  refine Gets.cond (fun _ => ?_) fun _ => Gets.cond (fun _ => ?_) fun _ => Gets.cond (fun _ => ?_) fun _ => Gets.cond (fun _ => ?_) fun _ => Gets.cond (fun _ => ?_) fun _ => Gets.pure ⟨o2, f4⟩
  · refine Gets.cond (fun hp => ?_) fun _ => Gets.pure ⟨o2, f4⟩
    have hp' : 0 < (r4.1.length : Int) := by simpa [gt_d, len_d] using hp
    have e : N.sub .i64 (N.len r4.1) 1 = (r4.1.length : Int) - 1 := by rw [len_d, sub_id (by omega) (by omega)]
    rw [e, len_d]
    refine Gets.ite (by omega) (Gets.ite (by omega) (Gets.pure ⟨o2, ?_⟩))
    refine ⟨?_, fun e he => ?_⟩
    · show ((r4.1.take _).drop _).length ≤ 17
      rw [List.length_drop, List.length_take]; omega
    · exact f4.2 e (List.mem_of_mem_take (List.mem_of_mem_drop he))
  · exact Gets.ite (fitsN (by simp; omega) (by omega)) (Gets.pure ⟨o2, few.app a4 (by simp [ok]) (by omega)⟩)
  · refine Gets.cond (fun hp => ?_) fun _ => Gets.pure ⟨o2, f4⟩
    have hp' : 0 < N.len r4.1 := by simpa [gt_d] using hp
    refine Gets.bind (spec_l1Below_is h5 hp') fun r6 ⟨a6, h6⟩ => Gets.bind (spec_l1Below_is h6 (by omega)) fun r7 ⟨a7, h7⟩ => Gets.ite a6.1 (Gets.ite a6.2 (Gets.pure ⟨o2, ?_⟩))
    have he := few.rd (i := r6.1) a4 z
    exact few.set f4 ⟨he.1, he.2.1, (show ok r7.1 from ok_num (by omega) (by omega))⟩
  · exact Gets.bind (spec_l13Entries_is h5) fun r8 ⟨a8, h8⟩ => Gets.pure ⟨o2, few.mono a8 (by omega)⟩
  · exact Gets.bind (spec_l10Any_is h5) fun r9 ⟨a9, h9⟩ => Gets.pure ⟨a9.ok (by omega), f4⟩
theorem spec_DrawMigrate_is {x : List Int} (h : x.length ≤ 1048576) : Gets (fun r => ok r.1 ∧ ok r.2) (spec_DrawMigrate x) := by
  unfold spec_DrawMigrate
  refine Gets.bind (spec_DrawReplay_is h) fun r1 ⟨a1, a2⟩ => Gets.bind (spec_l1New_is h) fun c hc => ?_
  have he : ok r1.2 := a2.ok (by omega)
  have hto := toOld_ok he
  rw [spec_ToOld_is he, bind_some']
  have hp : N.pairsB (toOldP r1.2) = true := by
    unfold N.pairsB
    rw [List.all_eq_true]
    intro p hp
    rw [toOld_map, List.mem_map] at hp
    obtain ⟨e, _, rfl⟩ := hp
    rfl
  rw [hp, cond_true]
  have hlen : (toOldP r1.2).length ≤ 17 := by rw [toOld_len]; exact a2.1
  have hnil : ok ([] : List Int) := ⟨by simp, fun _ h => by cases h⟩
  have hfirst : ok ((toOldP r1.2).getD 0 []) := by
    rw [List.getD_eq_getElem?_getD]
    cases e : (toOldP r1.2)[0]? with
    | none => exact hnil
    | some p => exact hto.2 p (List.mem_of_getElem? e)
  have hset : ∀ p : List Int, ok p → ok ((toOldP r1.2).set 0 p) := fun p hp => ⟨by rw [List.length_set]; omega, fun q hq => by
    rcases List.mem_or_eq_of_mem_set hq with hq | rfl
    · exact hto.2 q hq
    · exact hp⟩
  have hf2 : ((toOldP r1.2).getD 0 []).length ≤ 2 := by
    rw [List.getD_eq_getElem?_getD]
    cases e : (toOldP r1.2)[0]? with
    | none => simp
    | some p =>
      have hm := List.mem_of_getElem? e
      rw [toOld_map, List.mem_map] at hm
      obtain ⟨q, _, rfl⟩ := hm
      simp
  refine Gets.cond (fun _ => ?_) fun _ => Gets.pure ⟨a1, hto⟩
  refine Gets.bind (spec_l1Below_is hc (by omega)) fun r4 ⟨a4, h4⟩ => Gets.cond (fun _ => Gets.pure ⟨a1, hset _ ⟨by rw [List.length_append]; show _ + 1 ≤ _; omega, fun y hy => ?_⟩⟩) fun _ => Gets.cond (fun _ => ?_) fun _ => Gets.pure ⟨a1, hto⟩
  · rcases List.mem_append.1 hy with hy | hy
    · exact hfirst.2 y hy
    · simp only [List.mem_singleton] at hy; subst hy; exact ok_num (by omega) (by omega)
  · refine Gets.bind (spec_l1Int_is h4 (by simp) (by simp [ok])) fun r5 ⟨h5, _⟩ => Gets.pure ⟨a1, hset _ ⟨by rw [List.length_set]; omega, fun y hy => ?_⟩⟩
    rcases List.mem_or_eq_of_mem_set hy with hy | rfl
    · exact hfirst.2 y hy
    · exact h5.1
theorem spec_l9Any2_is {c : l1Cur} (h : curOk c) : Gets (fun r => few 9 r.1 ∧ curOk r.2) (spec_l9Any c) := by
  refine Gets.bind (spec_l9Draw_is h) fun r ⟨f, h2⟩ => Gets.cond (fun _ => Gets.pure ⟨f, h2⟩) fun hn => ?_
  have hl : 0 < N.len r.1 := by
    simp only [eq_d, len_d, decide_eq_false_iff_not] at hn
    rw [len_d]; omega
  refine Gets.bind (spec_l1Below_is h2 hl) fun r2 ⟨⟨b1, b2⟩, h3⟩ => Gets.bind (spec_l1Below_is h3 (by omega)) fun r3 ⟨_, h4⟩ => ?_
  obtain ⟨e1, e2, e3⟩ : ok (N.rd r.1 r2.1 ((0, 0, 0), 0, (0, [], (0, 0, 0)))) := f.rd (show ok (((((0 : Int), (0 : Int), (0 : Int)), (0 : Int), ((0 : Int), ([] : List Int), ((0 : Int), (0 : Int), (0 : Int)))) : Version)) by simp [ok])
  refine Gets.cond (fun _ => Gets.bind (spec_l4Any_is h4) fun r4 ⟨g, h5⟩ => Gets.ite b1 (Gets.ite b2 (Gets.let_ (Gets.pure ⟨f.set ⟨g, e2, e3⟩, h5⟩)))) fun _ => ?_
  refine Gets.cond (fun _ => Gets.bind (spec_l1Int_is h4 (by simp) (by simp [ok])) fun r4 ⟨g, h5⟩ => Gets.ite b1 (Gets.ite b2 (Gets.let_ (Gets.pure ⟨f.set ⟨e1, g.1, e3⟩, h5⟩)))) fun _ => ?_
  exact Gets.cond (fun _ => Gets.bind (spec_l5Any_is h4) fun r4 ⟨⟨a1, a2, a3, a4, a5⟩, h5⟩ => Gets.ite b1 (Gets.ite b2 (Gets.let_ (Gets.pure ⟨f.set ⟨e1, e2, a1, a2.ok (by omega), a3, a4, a5⟩, h5⟩)))) fun _ => Gets.pure ⟨f, h4⟩
theorem spec_l12Any2_is {c : l1Cur} (h : curOk c) : Gets VisG (spec_l12Any c) := by
  refine Gets.bind (spec_l12Draw_is h) fun r1 ⟨a1, a2, a3, a4, h1⟩ => Gets.bind (spec_l1Below_is h1 (by omega)) fun r2 ⟨_, h2⟩ => ?_
  have b4 : few 9 r1.2.2.2.1 := few.mono a4 (by omega)
  refine Gets.cond (fun _ => Gets.bind (spec_l1Int_is h2 (by simp) (by simp [ok])) fun r4 ⟨g, h5⟩ => Gets.pure ⟨a1, g.1, a3, b4, h5⟩) fun _ => ?_
  refine Gets.cond (fun _ => Gets.bind (spec_l1Int_is h2 (by simp) (by simp [ok])) fun r4 ⟨g, h5⟩ => Gets.pure ⟨a1, a2, g.1, b4, h5⟩) fun _ => ?_
  refine Gets.cond (fun _ => Gets.bind (spec_l1Int_is h2 (by simp) (by simp [ok])) fun r4 ⟨g, h5⟩ => Gets.ite (fitsN (by have := a4.1; simp; omega) (by omega)) (Gets.pure ⟨a1, a2, a3, few.app a4 g.1 (by omega), h5⟩)) fun _ => ?_
  refine Gets.cond (fun _ => Gets.bind (spec_l9Any2_is h2) fun r4 ⟨g, h5⟩ => Gets.pure ⟨g, a2, a3, b4, h5⟩) fun _ => ?_
  refine Gets.cond (fun _ => ?_) fun _ => Gets.pure ⟨a1, a2, a3, b4, h2⟩
  refine Gets.loop (I := fun s : List Version × Int × Int × List Int => few 9 s.1 ∧ ok s.2.1 ∧ ok s.2.2.1 ∧ few 9 s.2.2.2) (m := fun s => 9 - s.2.2.2.length) (fun s hs => ?_) _ ⟨a1, a2, a3, b4⟩
  obtain ⟨i1, i2, i3, i4⟩ := hs
  refine Gets.cond (fun hlt => ?_) fun _ => Gets.pure ⟨i1, i2, i3, i4, h2⟩
  have hlt' : s.2.2.2.length < 9 := by simp only [lt_d, len_d, decide_eq_true_eq] at hlt; omega
  exact Gets.ite (fitsN (by simp; omega) (by omega)) (Gets.pure ⟨⟨i1, i2, i3, few.app (n := s.2.2.2.length) ⟨Nat.le_refl _, i4.2⟩ (ok_num (by omega) (by omega)) (by omega)⟩, by simp [N.app]; omega⟩)
theorem spec_DrawRecordVisit_is {x : List Int} (h : x.length ≤ 1048576) : Gets (fun r => ok r.1 ∧ ok ((r.2.1, r.2.2.1, r.2.2.2.1, r.2.2.2.2) : Visit)) (spec_DrawRecordVisit x) := by
  unfold spec_DrawRecordVisit
  exact Gets.bind (spec_l1New_is h) fun c hc => Gets.bind (spec_l10Any_is hc) fun r2 ⟨a1, a2⟩ => Gets.bind (spec_l12Any2_is a2) fun r3 hr => Gets.pure ⟨a1.ok (by omega), ⟨hr.1.ok (by omega), hr.2.1, hr.2.2.1, hr.2.2.2.1.ok (by omega)⟩⟩

theorem mig_tail {x : List Int} (h : x.length ≤ 1048576) : (N.bind (spec_DrawMigrate x) fun r13 =>
    N.bind (impl_Migrate r13.1 r13.2) fun r14 =>
      N.cond r14.2
        (N.bind (impl_Replay r13.1 r14.1) fun r15 =>
          N.cond (N.ne r15.1 0) (some false)
            (N.bind (impl_ToOld r14.1) fun r16 => N.bind (impl_OldText r16) fun r17 => N.bind (impl_OldText r13.2) fun r18 =>
              N.cond (N.neS r17 r18) (some false) (N.cond r14.2 (some true) (some (N.eq (N.len r14.1) 0)))))
        (N.cond r14.2 (some true) (some (N.eq (N.len r14.1) 0)))) = some true := by
  obtain ⟨d, e, hl, ht⟩ := spec_DrawMigrate_is h
  rw [e, bind_some', impl_Migrate_is hl ht, bind_some']
  rcases migrate_cases hl ht with hm | ⟨y, hm⟩
  · rw [hm]; rfl
  · obtain ⟨h1, h2, f, h3⟩ := migrate_back hl ht hm
    have hy : ok y := by
      have := (migrate_few hl ht)
      rw [hm] at this
      exact this.ok (by omega)
    rw [hm]
    simp only [cond_true, h3, bind_some', impl_ToOld_is hy, ← h1, impl_OldText_is ht, neS_d, ne_d, cond_dec]
    simp
theorem FnMigrated_true (x : List Int) (hx : bd x) : laws_FnMigrated x = some true := by
  unfold laws_FnMigrated laws_big
  rw [bind_some', gt_d, len_d, cond_dec]
  by_cases hb : (1048576 : Int) < (x.length : Int)
  · rw [if_pos hb]
  rw [if_neg hb]
  have hxl : x.length ≤ 1048576 := by omega
  simp only [mig_tail hxl]
  obtain ⟨d, e1, hl, hv⟩ := spec_DrawRecordVisit_is hxl
  obtain ⟨l, s, t, sd, inp⟩ := d
  simp only at hl hv
  have hll := hl.1
  obtain ⟨g1, q, g2, g3⟩ := record_is hl hv
  rw [e1, bind_some']
  simp only
  rw [g1, g2, bind_some', impl_IsScript_is (by omega), bind_some', spec_IsScript_is (by omega), bind_some', neB_d, impl_IsVisit_is hv]
  simp only [bind_some', cond_dec]
  rw [if_neg (by simp)]
  cases hsc : scriptP l with
  | false => rfl
  | true =>
    cases hvp : visitP ((s, t, sd, inp) : Visit) with
    | false => rfl
    | true =>
      have hq : ok q.1 := ⟨by have := g3.e2; omega, fun e he => entryP_ok (g3.ent e he)⟩
      obtain ⟨T, h1, h2⟩ := record_of hl hv g2
      have hep := entries_of g3.e2 g3.ent
      have hm := migrate_record hl hv hsc hvp h1 g3.e2 hep
      have hto := toOld_ok hq
      have hql := hq.1
      simp only [cond_true, impl_ToOld_is hq, bind_some', impl_Migrate_is hl hto, hm, impl_EqualEntries_is (show q.1.length ≤ 4611686018427387904 by omega), impl_IsEquivalent_is hl hto, equivP]
      simp [N.not, N.cond]
end D
end Go.Sh
