/- The native forms of the functions that FnKept reaches, and their pure laws, part 2: FnKept is true for every input of bounded parts. No condition beyond the bounds that every input keeps. -/
import Derived.Test.YtekclbjiifiahabPuFnKeptp1
set_option linter.unusedVariables false
set_option linter.unusedSimpArgs false
namespace Go.Sh.D
open Go Data
/-! ## Copies repaired -/
def needP (x : Int) (a : Library) : Bool := a.2.2.1 && !decide (x ∈ a.2.1)
def idsP (l : List Library) (x : Int) : List Int := (l.filter (needP x)).map fun a => a.1
def putP (x : Int) (a : Library) : Library := (a.1, N.withD a.2.1 x, a.2.2.1, a.2.2.2)
def updP (x : Int) (S : List Int) (l : List Library) : List Library := l.map fun a => if a.1 ∈ S then putP x a else a
def hP (x : Int) (a : Library) : Bool := a.2.2.1 && decide (x ∈ a.2.1)
def idn (l : List Library) : List Int := l.map fun a => a.1
def stepsP (l : List Library) (x k : Int) : Nat := min (orderP (idsP l x) x).length (k - (holdersP l x).length).toNat
def repairP (l : List Library) (x k : Int) : List Library × Bool :=
  if libsP l = true ∧ countAt (fun _ a => goodP x a) l 0 ≠ 0 then (updP x ((orderP (idsP l x) x).take (stepsP l x k)) l, true) else (l, false)

theorem holders_count (l : List Library) (x : Int) : (holdersP l x).length = l.countP (hP x) := by
  unfold holdersP
  induction l with
  | nil => rfl
  | cons a l ih =>
    rw [List.flatMap_cons, List.length_append, ih, List.countP_cons]
    unfold hP
    by_cases h1 : a.2.2.1 = true <;> by_cases h2 : x ∈ a.2.1 <;> simp [h1, h2, Nat.add_comm]

theorem libs_asc {l : List Library} (h : libsP l = true) : (idn l).Pairwise fun a b => a < b := by
  unfold libsP at h
  rw [Bool.and_eq_true, List.all_eq_true] at h
  have hs : ∀ i, i + 1 < l.length → idAt l i < idAt l (i + 1) := fun i hi => by
    have := h.2 (i + 1) (List.mem_range.2 hi)
    unfold okAt at this
    simp only [Bool.and_eq_true, Bool.or_eq_true, decide_eq_true_eq] at this
    have := this.1.2.resolve_left (by omega)
    simpa using this
  have hm : ∀ (d i : Nat), i + d + 1 < l.length → idAt l i < idAt l (i + d + 1) := by
    intro d
    induction d with
    | zero => intro i hi; exact hs i hi
    | succ d ih => intro i hi; exact Int.lt_trans (ih i (by omega)) (hs (i + d + 1) hi)
  rw [List.pairwise_iff_getElem]
  intro i j hi hj hij
  have hi' : i < l.length := by simpa [idn] using hi
  have hj' : j < l.length := by simpa [idn] using hj
  have := hm (j - i - 1) i (by omega)
  rw [show i + (j - i - 1) + 1 = j by omega] at this
  unfold idAt at this
  rw [rd_at l i hi', rd_at l j hj'] at this
  simpa [idn] using this

theorem libs_nodup {l : List Library} (h : libsP l = true) : (idn l).Nodup := (libs_asc h).imp fun h => by omega

theorem idsP_sub (l : List Library) (x : Int) : (idsP l x).Sublist (idn l) := (List.filter_sublist).map _

theorem idsP_succ (l : List Library) (x : Int) (k : Nat) (hk : k < l.length) : idsP (l.take (k + 1)) x = idsP (l.take k) x ++ (if needP x l[k] = true then [(l[k]).1] else []) := by
  unfold idsP
  rw [List.take_succ_eq_append_getElem hk, List.filter_append, List.map_append]
  congr 1
  by_cases h : needP x l[k] = true <;> simp [h]
theorem idsP_len (l : List Library) (x : Int) (k : Nat) : (idsP (l.take k) x).length ≤ k := by
  unfold idsP
  rw [List.length_map]
  exact Nat.le_trans (List.length_filter_le _ _) (by simp; omega)

theorem countP_or {α : Type} (p q : α → Bool) : ∀ l : List α, l.countP (fun a => p a || q a) = l.countP p + l.countP (fun a => q a && !p a)
  | [] => rfl
  | a :: l => by
    rw [List.countP_cons, List.countP_cons, List.countP_cons, countP_or p q l]
    cases p a <;> cases q a <;> simp <;> omega

/-- how many hold the digest when S have been given it -/
theorem holders_upd {l : List Library} {x : Int} (hn : (idn l).Nodup) {S : List Int} (hS : S.Nodup) (hsub : ∀ i ∈ S, i ∈ idsP l x) : (holdersP (updP x S l) x).length = (holdersP l x).length + S.length := by
  rw [holders_count, holders_count]
  unfold updP
  rw [List.countP_map]
  have e1 : (hP x ∘ fun a => if a.1 ∈ S then putP x a else a) = fun a => hP x a || (a.2.2.1 && decide (a.1 ∈ S)) := by
    funext a
    unfold hP putP
    by_cases h : a.1 ∈ S
    · simp only [Function.comp, h, if_true, decide_true, Bool.and_true]
      have : x ∈ N.withD a.2.1 x := (withD_mem _ _ _).2 (.inl rfl)
      cases a.2.2.1 <;> simp [this]
    · simp [Function.comp, h]
  rw [e1, countP_or]
  congr 1
  have e2 : (fun a : Library => (a.2.2.1 && decide (a.1 ∈ S)) && !hP x a) = fun a => needP x a && decide (a.1 ∈ S) := by
    funext a
    unfold hP needP
    cases a.2.2.1 <;> cases decide (x ∈ a.2.1) <;> cases decide (a.1 ∈ S) <;> rfl
  rw [e2]
  have e3 : (l.countP fun a => needP x a && decide (a.1 ∈ S)) = ((idsP l x).filter fun i => decide (i ∈ S)).length := by
    unfold idsP
    rw [List.filter_map, List.length_map, List.filter_filter, List.countP_eq_length_filter]
    congr 2
    funext a
    simp [Function.comp, Bool.and_comm]
  rw [e3]
  have hp : ((idsP l x).filter fun i => decide (i ∈ S)).Perm S := by
    refine (List.perm_ext_iff_of_nodup ((hn.sublist (idsP_sub l x)).sublist List.filter_sublist) hS).2 fun i => ?_
    rw [List.mem_filter, decide_eq_true_eq]
    exact ⟨fun h => h.2, fun h => ⟨hsub i h, h⟩⟩
  exact hp.length_eq

theorem updP_len (x : Int) (S : List Int) (l : List Library) : (updP x S l).length = l.length := List.length_map _
theorem updP_nil (x : Int) (l : List Library) : updP x [] l = l := by simp [updP]
theorem updP_idn (x : Int) (S : List Int) (l : List Library) : idn (updP x S l) = idn l := by
  unfold idn updP
  rw [List.map_map]
  congr 1
  funext a
  simp only [Function.comp]
  split <;> rfl

theorem updP_succ (x : Int) {S : List Int} {i : Int} (hi : i ∉ S) (l : List Library) : (updP x S l).map (fun a => if a.1 = i then putP x a else a) = updP x (S ++ [i]) l := by
  unfold updP
  rw [List.map_map]
  congr 1
  funext a
  simp only [Function.comp, List.mem_append, List.mem_singleton]
  by_cases h1 : a.1 ∈ S
  · have h2 : a.1 ≠ i := fun e => hi (e ▸ h1)
    have h3 : (putP x a).1 ≠ i := h2
    simp [h1, h2, h3]
  · by_cases h2 : a.1 = i
    · simp [h2, hi]
    · simp [h1, h2]

theorem updP_ok {l : List Library} (h : ok l) (hd : ∀ a ∈ l, a.2.1.length ≤ 1048575) {x : Int} (hx : bd x) (S : List Int) : ok (updP x S l) := by
  refine ⟨by rw [updP_len]; exact h.1, fun b hb => ?_⟩
  obtain ⟨a, ha, rfl⟩ := List.mem_map.1 hb
  have hka := h.2 a ha
  split
  · refine ⟨hka.1, ⟨?_, fun y hy => ?_⟩, hka.2.2.1, hka.2.2.2⟩
    · have := withD_len a.2.1 x
      have := hd a ha
      show (N.withD a.2.1 x).length ≤ 1048576
      omega
    · rcases (withD_mem a.2.1 x y).1 hy with rfl | hy
      · exact Flat.fl _ hx
      · exact hka.2.1.2 y hy
  · exact hka

theorem index_is (out : List Library) (id : Int) (j : Nat) (hj : j < out.length) (hl : out.length ≤ 1048576) (he : (out[j]).1 = id) (hne : ∀ (i : Nat) (hi : i < out.length), i < j → (out[i]).1 ≠ id) :
    slices_IndexFunc_Library_impl_RepairCopies_1 out id = some (j : Int) := by
  unfold slices_IndexFunc_Library_impl_RepairCopies_1 impl_RepairCopies_1
  refine up_unit j _ (fun i hi => ?_) ?_
  · have hi' : i < out.length := by omega
    simp only [lt_tt (show (i : Int) < N.len out by rw [len_d]; omega), cond_true, rd_at out i hi', bind_some', eq_ff (hne i hi' hi), cond_false, next_id hi' (by omega)]
    rw [nite_pos (by omega), nite_pos (by rw [len_d]; omega)]
  · simp only [lt_tt (show (j : Int) < N.len out by rw [len_d]; omega), cond_true, rd_at out j hj, bind_some', eq_tt he]
    rw [nite_pos (by omega), nite_pos (by rw [len_d]; omega)]

theorem steps_lt {l : List Library} {x k : Int} {i : Nat} (hi : i < stepsP l x k) : i < (orderP (idsP l x) x).length ∧ ((holdersP l x).length : Int) + i < k := by
  unfold stepsP at hi
  omega
theorem steps_end (l : List Library) (x k : Int) : stepsP l x k = (orderP (idsP l x) x).length ∨ ¬ ((holdersP l x).length : Int) + stepsP l x k < k := by
  unfold stepsP
  omega
theorem steps_le (l : List Library) (x k : Int) : stepsP l x k ≤ (orderP (idsP l x) x).length := by unfold stepsP; omega

theorem take_order {l : List Library} {x : Int} (hn : (idn l).Nodup) (i : Nat) : ((orderP (idsP l x) x).take i).Nodup ∧ ∀ y ∈ (orderP (idsP l x) x).take i, y ∈ idsP l x :=
  ⟨(orderP_nodup _ _).sublist (List.take_sublist _ _), fun y hy => (orderP_mem _ _ _).1 ((List.take_sublist _ _).subset hy)⟩

theorem order_next (L : List Int) (hn : L.Nodup) (i : Nat) (hi : i < L.length) : L[i] ∉ L.take i := fun h => by
  have := hn
  rw [← List.take_append_drop i L, List.nodup_append] at this
  exact this.2.2 _ h L[i] (by rw [List.drop_eq_getElem_cons hi]; exact List.mem_cons_self) rfl

theorem setAt_map {out : List Library} {x : Int} (hn : (idn out).Nodup) (j : Nat) (hj : j < out.length) : out.set j (putP x out[j]) = out.map fun a => if a.1 = (out[j]).1 then putP x a else a := by
  apply List.ext_getElem
  · simp
  · intro i h1 h2
    simp only [List.getElem_set, List.getElem_map]
    have hi : i < out.length := by simpa using h1
    by_cases hij : j = i
    · subst hij; simp
    · rw [if_neg hij, if_neg]
      intro e
      have hne := List.pairwise_iff_getElem.1 (List.nodup_iff_pairwise_ne.1 hn)
      have li : i < (idn out).length := by simpa [idn] using hi
      have lj : j < (idn out).length := by simpa [idn] using hj
      rcases Nat.lt_or_gt_of_ne (Ne.symm hij) with h | h
      · exact hne i j li lj h (by simpa [idn] using e)
      · exact hne j i lj li h (by simpa [idn] using e.symm)
end Go.Sh.D
set_option linter.unusedVariables false
set_option linter.unusedSimpArgs false
namespace Go.Sh.D
open Go Data
end Go.Sh.D
set_option linter.unusedVariables false
set_option linter.unusedSimpArgs false
namespace Go.Sh.D
open Go Data
theorem impl_RepairCopies_is {l : List Library} (h : ok l) (hd : ∀ a ∈ l, a.2.1.length ≤ 1048575) {x : Int} (hx : bd x) (k : Int) : impl_RepairCopies l x k = some (repairP l x k) := by
  unfold impl_RepairCopies repairP
  have hl := h.1
  rw [impl_copyLibraries_is h, bind_some', impl_AreLibraries_is h, bind_some']
  by_cases h1 : libsP l = true
  · rw [h1, show N.not true = false from rfl, cond_false, impl_GoodCopies_is h, bind_some']
    by_cases h2 : countAt (fun _ a => goodP x a) l 0 = 0
    · rw [eq_tt h2, cond_true, if_neg (fun hh => hh.2 h2)]
    · rw [eq_ff h2, cond_false, if_pos ⟨rfl, h2⟩]
      have hn := libs_nodup h1
      have h6 : l.length ≤ 6 := by
        unfold libsP at h1
        simp only [Bool.and_eq_true, decide_eq_true_eq] at h1
        exact h1.1
      refine (loop_upto l.length (fun (i : Nat) (o : List Int) => (o, (i : Int))) (fun i => idsP (l.take i) x) _ (fun i hi => ?_) ?_ :)
      · have hdi := (h.2 l[i] (List.getElem_mem hi)).2.1.1
        have hf := idsP_len l x i
        have ln : N.len l = (l.length : Int) := len_d l
        simp only [ln, lt_tt (show (i : Int) < (l.length : Int) by omega), cond_true, rd_at l i hi, next_id hi (by omega), slices_Contains_int_is (l := (l[i]).2.1) (by omega), bind_some', idsP_succ l x i hi]
        rw [nite_pos (by omega), nite_pos (by omega)]
        unfold needP
        cases h3 : (l[i]).2.2.1 with
        | false => simp
        | true =>
          rw [cond_true]
          by_cases h4 : x ∈ (l[i]).2.1
          · simp [h4, N.not]
          · rw [decide_eq_false h4, show N.not false = true from rfl, cond_true, nite_pos (fits8 (by simp; omega))]
            simp [N.app]
      · have il : (idsP l x).length ≤ l.length := by
          have := idsP_len l x l.length
          rwa [List.take_length] at this
        have hol := orderP_len (idsP l x) x
        simp only [len_d l, lt_self, cond_false, List.take_length]
        rw [impl_OrderFor_is (by omega), bind_some']
        have key := loop_upto (stepsP l x k) (fun (i : Nat) (s : List Library) => ((i : Int), s)) (fun i => updP x ((orderP (idsP l x) x).take i) l) (updP x ((orderP (idsP l x) x).take (stepsP l x k)) l, true)
          (step := fun (s2 : Int × List Library) =>
                                  N.cond (N.lt s2.1 (N.len (orderP (idsP l x) x)))
                                    (
                                      N.ite (0 ≤ s2.1)
                                        (
                                          N.ite (s2.1 < N.len (orderP (idsP l x) x))
                                            (
                                              N.bind (impl_HoldersOf s2.2 x) fun r6 =>
                                                N.cond (N.ge (N.len r6) k)
                                                  (some (.inr (s2.2, true)))
                                                  (
                                                    N.bind (slices_IndexFunc_Library_impl_RepairCopies_1 s2.2 (N.rd (orderP (idsP l x) x) s2.1 0)) fun r7 =>
                                                      N.ite (0 ≤ r7)
                                                        (
                                                          N.ite (r7 < N.len s2.2)
                                                            (
                                                              N.bind (impl_withDigest ((N.rd s2.2 r7 (0, [], false, false)).2.1) x) fun r8 =>
                                                                N.ite (0 ≤ r7)
                                                                  (
                                                                    N.ite (r7 < N.len s2.2)
                                                                      (some (.inl (N.add .i64 s2.1 1, N.set s2.2 r7 ((N.rd s2.2 r7 (0, [], false, false)).1, r8, (N.rd s2.2 r7 (0, [], false, false)).2.2.1, (N.rd s2.2 r7 (0, [], false, false)).2.2.2))))
                                                                      none)
                                                                  none)
                                                            none)
                                                        none))
                                            none)
                                        none)
                                    (some (.inr (s2.2, true)))) (fun i hi => ?_) ?_
        · have e0 : updP x ((orderP (idsP l x) x).take 0) l = l := by rw [List.take_zero, updP_nil]
          simp only [e0] at key
          refine Eq.trans (congrArg (Option.map Sum.inr) key) rfl
        · obtain ⟨g1, g2⟩ := steps_lt hi
          have hok := updP_ok h hd hx ((orderP (idsP l x) x).take i)
          have hnx := updP_succ x (order_next _ (orderP_nodup _ _) i g1) l
          rw [← List.take_succ_eq_append_getElem g1] at hnx
          obtain ⟨t1, t2⟩ := take_order (x := x) hn i
          have hh := holders_upd hn t1 t2
          have hti : ((orderP (idsP l x) x).take i).length = i := by simp; omega
          rw [hti] at hh
          have hidn := updP_idn x ((orderP (idsP l x) x).take i) l
          have hmem : (orderP (idsP l x) x)[i] ∈ idn l := (idsP_sub l x).subset ((orderP_mem _ _ _).1 (List.getElem_mem g1))
          have a2 : N.add .i64 (i : Int) 1 = ((i + 1 : Nat) : Int) := next_id g1 (by omega)
          simp only [len_d (orderP (idsP l x) x), lt_tt (show (i : Int) < ((orderP (idsP l x) x).length : Int) by omega), cond_true, a2, rd_at _ i g1]
          rw [nite_pos (by omega), nite_pos (by omega), impl_HoldersOf_is hok, bind_some', ← hnx]
          rw [← hidn] at hmem hn
          generalize updP x ((orderP (idsP l x) x).take i) l = out at *
          generalize (orderP (idsP l x) x)[i] = id at *
          have hge : N.ge (N.len (holdersP out x)) k = false := by
            rw [ge_d, len_d]; exact decide_eq_false (by omega)
          rw [hge, cond_false]
          obtain ⟨j, hj, hje⟩ := List.getElem_of_mem hmem
          have hj' : j < out.length := by simpa [idn] using hj
          have hje' : (out[j]).1 = id := by simpa [idn] using hje
          have hol2 := hok.1
          have hix := index_is out id j hj' hol2 hje' fun i hi hij e => by
            have hne := List.pairwise_iff_getElem.1 (List.nodup_iff_pairwise_ne.1 hn)
            exact hne i j (by simpa [idn] using hi) (by simpa [idn] using hj') hij (by simp only [idn, List.getElem_map]; rw [e, hje'])
          have hdj := (hok.2 out[j] (List.getElem_mem hj')).2.1.1
          rw [hix, bind_some', nite_pos (by omega), nite_pos (by rw [len_d]; omega), rd_at out j hj', impl_withDigest_is hdj, bind_some', nite_pos (by omega), nite_pos (by rw [len_d]; omega), set_at]
          have := setAt_map (x := x) hn j hj'
          rw [hje'] at this
          rw [← this]; rfl
        · obtain ⟨t1, t2⟩ := take_order (x := x) hn (stepsP l x k)
          have hh := holders_upd hn t1 t2
          have hti : ((orderP (idsP l x) x).take (stepsP l x k)).length = stepsP l x k := by have := steps_le l x k; simp; omega
          rw [hti] at hh
          have hok := updP_ok h hd hx ((orderP (idsP l x) x).take (stepsP l x k))
          simp only [len_d (orderP (idsP l x) x)]
          by_cases hE2 : stepsP l x k < (orderP (idsP l x) x).length
          · have hE := (steps_end l x k).resolve_left (by omega)
            rw [lt_tt (by omega), cond_true, nite_pos (by omega), nite_pos (by omega), impl_HoldersOf_is hok, bind_some', show N.ge (N.len (holdersP (updP x ((orderP (idsP l x) x).take (stepsP l x k)) l) x)) k = true by rw [ge_d, len_d]; exact decide_eq_true (by omega), cond_true]
          · rw [lt_ff (by omega), cond_false]
  · rw [show libsP l = false by simpa using h1, show N.not false = true from rfl, cond_true]
    rw [if_neg (by simp)]

theorem repair_ok {l : List Library} (h : ok l) (hd : ∀ a ∈ l, a.2.1.length ≤ 1048575) {x : Int} (hx : bd x) (k : Int) : ok (repairP l x k).1 := by
  unfold repairP
  split
  · exact updP_ok h hd hx _
  · exact h

end Go.Sh.D
set_option linter.unusedVariables false
set_option linter.unusedSimpArgs false
namespace Go.Sh.D
open Go Data
/-! ## After a repair everything can be produced -/
theorem countAt_countP {α : Type} (p : α → Bool) : ∀ (xs : List α) (k : Nat), countAt (fun _ a => p a) xs k = (xs.countP p : Int)
  | [], _ => rfl
  | x :: xs, k => by
    simp only [countAt, countAt_countP p xs (k + 1), List.countP_cons]
    by_cases h : p x = true <;> simp [h]; omega

theorem countP_set {α : Type} (p : α → Bool) : ∀ (xs : List α) (i : Nat) (v : α), xs.countP p ≤ (xs.set i v).countP p + 1
  | [], i, v => by simp
  | x :: xs, 0, v => by
    rw [List.set_cons_zero, List.countP_cons, List.countP_cons]
    split <;> split <;> omega
  | x :: xs, i + 1, v => by
    rw [List.set_cons_succ, List.countP_cons, List.countP_cons]
    have := countP_set p xs i v
    omega

theorem withD_asc {xs : List Int} (h : xs.Pairwise fun a b => a < b) (d : Int) : (N.withD xs d).Pairwise fun a b => a < b := by
  have key : ∀ (l : List Int), (l.Pairwise fun a b => a < b) → (l[(l.takeWhile fun x => decide (x < d)).length]? = some d ∨ (l.take (l.takeWhile fun x => decide (x < d)).length ++ d :: l.drop (l.takeWhile fun x => decide (x < d)).length).Pairwise fun a b => a < b) := by
    intro l
    induction l with
    | nil => intro _; right; simp
    | cons x l ih =>
      intro h
      rw [List.pairwise_cons] at h
      by_cases hx : x < d
      · rw [List.takeWhile_cons_of_pos (by simpa using hx)]
        rcases ih h.2 with e | e
        · left; simpa using e
        · right
          simp only [List.length_cons, List.take_succ_cons, List.drop_succ_cons, List.cons_append]
          rw [List.pairwise_cons]
          refine ⟨fun y hy => ?_, e⟩
          rw [List.mem_append, List.mem_cons] at hy
          rcases hy with hy | rfl | hy
          · exact h.1 y ((List.take_sublist _ _).subset hy)
          · exact hx
          · exact h.1 y ((List.drop_sublist _ _).subset hy)
      · rw [List.takeWhile_cons_of_neg (by simpa using hx)]
        by_cases he : x = d
        · left; simp [he]
        · right
          simp only [List.length_nil, List.take_zero, List.drop_zero, List.nil_append]
          rw [List.pairwise_cons]
          refine ⟨fun y hy => ?_, List.pairwise_cons.2 h⟩
          rcases List.mem_cons.1 hy with rfl | hy
          · omega
          · have := h.1 y hy; omega
  unfold N.withD
  rcases key xs h with e | e
  · rw [if_pos e]; exact h
  · by_cases e2 : xs[(xs.takeWhile fun x => decide (x < d)).length]? = some d
    · rw [if_pos e2]; exact h
    · rw [if_neg e2]; exact e

theorem libs_upd {l : List Library} (h : libsP l = true) (x : Int) (S : List Int) : libsP (updP x S l) = true := by
  unfold libsP at h ⊢
  rw [Bool.and_eq_true, List.all_eq_true] at h ⊢
  rw [updP_len]
  refine ⟨h.1, fun i hi => ?_⟩
  have ho := h.2 i hi
  rw [List.mem_range] at hi
  have hid : ∀ j, j < l.length → idAt (updP x S l) j = idAt l j := fun j hj => by
    unfold idAt
    rw [rd_at _ j (by rw [updP_len]; exact hj), rd_at l j hj]
    simp only [updP, List.getElem_map]
    split <;> rfl
  unfold okAt at ho ⊢
  rw [hid i hi, hid (i - 1) (by omega)]
  rw [Bool.and_eq_true] at ho ⊢
  refine ⟨ho.1, ?_⟩
  rw [ascP_iff] at ho ⊢
  have hdl : digAt l i = (l[i]).2.1 := by unfold digAt; rw [rd_at l i hi]
  rw [hdl] at ho
  unfold digAt
  rw [rd_at _ i (by rw [updP_len]; exact hi)]
  simp only [updP, List.getElem_map]
  split
  · exact withD_asc ho.2 x
  · exact ho.2

theorem good_upd (x : Int) (S : List Int) (l : List Library) : l.countP (goodP x) ≤ (updP x S l).countP (goodP x) := by
  unfold updP
  rw [List.countP_map]
  refine List.countP_mono_left fun a _ ha => ?_
  simp only [Function.comp]
  split
  · unfold goodP putP at *
    simp only [Bool.and_eq_true, decide_eq_true_eq] at ha ⊢
    exact ⟨ha.1, (withD_mem _ _ _).2 (.inr ha.2)⟩
  · exact ha

theorem up_count (l : List Library) (x : Int) : (l.countP fun a => a.2.2.1) = l.countP (hP x) + (idsP l x).length := by
  have e : (idsP l x).length = l.countP (needP x) := by unfold idsP; rw [List.length_map, List.countP_eq_length_filter]
  rw [e]
  induction l with
  | nil => rfl
  | cons a l ih =>
    rw [List.countP_cons, List.countP_cons, List.countP_cons, ih (by unfold idsP; rw [List.length_map, List.countP_eq_length_filter])]
    unfold hP needP
    cases a.2.2.1 <;> cases decide (x ∈ a.2.1) <;> simp <;> omega

theorem orderP_full {l : List Int} (h : l.Nodup) (d : Int) : (orderP l d).length = l.length :=
  ((List.perm_ext_iff_of_nodup (orderP_nodup l d) h).2 (orderP_mem l d)).length_eq

theorem kept_tail (R : List Library) (hR : ok R) (x : Int) (at2 : Int) (hg : 1 ≤ (R.countP (goodP x) : Int)) :
    (N.bind (impl_CanProduce R x) fun r18 =>
      N.cond (N.not r18) (some false)
        (N.bind (impl_GoodCopies R x) fun r19 =>
          N.bind (some at2) fun r20 =>
            N.ite (r19 = 0) none
              (loopF (fun (s4 : Int × Int × List Library) =>
 N.cond (N.lt s4.2.1 (N.len s4.2.2))
 (
 N.cond (N.gt s4.1 0)
 (
 N.ite (0 ≤ s4.2.1)
 (
 N.ite (s4.2.1 < N.len s4.2.2)
 (
 N.cond ((N.rd s4.2.2 s4.2.1 (0, [], false, false)).2.2.1)
 (
 N.ite (0 ≤ s4.2.1)
 (
 N.ite (s4.2.1 < N.len s4.2.2)
 (
 N.cond (N.not ((N.rd s4.2.2 s4.2.1 (0, [], false, false)).2.2.2))
 (
 N.ite (0 ≤ s4.2.1)
 (
 N.ite (s4.2.1 < N.len s4.2.2)
 (some (.inl (N.sub .i64 s4.1 1, N.add .i64 s4.2.1 1, N.set s4.2.2 s4.2.1 ((N.rd s4.2.2 s4.2.1 (0, [], false, false)).1, (N.rd s4.2.2 s4.2.1 (0, [], false, false)).2.1, false, (N.rd s4.2.2 s4.2.1 (0, [], false, false)).2.2.2))))
 none)
 none)
 (some (.inl (s4.1, N.add .i64 s4.2.1 1, s4.2.2))))
 none)
 none)
 (some (.inl (s4.1, N.add .i64 s4.2.1 1, s4.2.2))))
 none)
 none)
 (
 Option.map Sum.inr
 (
 N.bind (impl_CanProduce s4.2.2 x) fun r21 =>
 some r21)))
 (
 Option.map Sum.inr
 (
 N.bind (impl_CanProduce s4.2.2 x) fun r22 =>
 some r22)))
 (N.rem r20 r19, 0, R)))) = some true := by
  have hl := hR.1
  have hgl : (R.countP (goodP x) : Int) ≤ 1048576 := by
    have := List.countP_le_length (p := goodP x) (l := R)
    omega
  rw [impl_CanProduce_is hR, bind_some', countAt_countP, decide_eq_true hg, show N.not true = false from rfl, cond_false, impl_GoodCopies_is hR, bind_some', bind_some', countAt_countP, nite_neg (by omega)]
  have hrem : N.rem at2 (R.countP (goodP x) : Int) < (R.countP (goodP x) : Int) := Int.tmod_lt_of_pos at2 (show 0 < (R.countP (goodP x) : Int) by omega)
  have fin : ∀ ys : List Library, ok ys → 1 ≤ (ys.countP (goodP x) : Int) → (Option.map Sum.inr (N.bind (impl_CanProduce ys x) fun r => some r) : Option ((Int × Int × List Library) ⊕ Bool)) = some (.inr true) := fun ys hy h => by
    rw [impl_CanProduce_is hy, bind_some', countAt_countP, decide_eq_true h]; rfl
  refine (fun (key : ∃ r, loopF _ _ = some r ∧ r = true) => key.elim fun r h => h.2 ▸ h.1) (loop_meas (fun s => ∃ i : Nat, s.2.1 = (i : Int) ∧ i ≤ R.length ∧ ok s.2.2 ∧ s.2.2.length = R.length ∧ 1 ≤ (s.2.2.countP (goodP x) : Int) ∧ s.1 + 1 ≤ (s.2.2.countP (goodP x) : Int))
    (fun s => R.length - s.2.1.toNat) (fun r => r = true) (fun s hI => ?_) _ ⟨0, rfl, by omega, hR, rfl, hg, by simp only; omega⟩)
  obtain ⟨f, i0, ys⟩ := s
  obtain ⟨i, hi0, hi, hy, hyl, hg1, hg2⟩ := hI
  simp only at hi0 hy hyl hg1 hg2
  subst hi0
  by_cases hlt : i < R.length
  · have hlty : i < ys.length := by omega
    have lny : N.len ys = (R.length : Int) := by rw [len_d, hyl]
    simp only [lny, lt_tt (show (i : Int) < (R.length : Int) by omega), cond_true]
    by_cases hf : 0 < f
    · have hcl : (ys.countP (goodP x) : Int) ≤ 1048576 := by
        have := List.countP_le_length (p := goodP x) (l := ys)
        omega
      rw [gt_tt hf, cond_true, nite_pos (by omega), nite_pos (by omega), rd_at ys i hlty, next_id hlt (by omega)]
      left
      cases hup : (ys[i]).2.2.1 with
      | false =>
        exact ⟨_, by rw [cond_false], ⟨i + 1, rfl, by omega, hy, hyl, hg1, hg2⟩, by simp only [Int.toNat_natCast]; omega⟩
      | true =>
        rw [cond_true, nite_pos (by omega), nite_pos (by omega)]
        cases hli : (ys[i]).2.2.2 with
        | true => exact ⟨_, by rw [show N.not true = false from rfl, cond_false], ⟨i + 1, rfl, by omega, hy, hyl, hg1, hg2⟩, by simp only [Int.toNat_natCast]; omega⟩
        | false =>
          have hset := countP_set (goodP x) ys i ((ys[i]).1, (ys[i]).2.1, false, false)
          have e1 : N.sub .i64 f 1 = f - 1 := sub_id (by omega) (by omega)
          have hki := hy.2 ys[i] (List.getElem_mem hlty)
          refine ⟨(f - 1, ((i + 1 : Nat) : Int), ys.set i ((ys[i]).1, (ys[i]).2.1, false, false)), by rw [show N.not false = true from rfl, cond_true, nite_pos (by omega), nite_pos (by omega), e1, set_at], ⟨i + 1, rfl, by omega, ⟨by simp only [List.length_set]; exact hy.1, fun a ha => ?_⟩, by simp [hyl], by simp only; omega, by simp only; omega⟩, by simp only [Int.toNat_natCast]; omega⟩
          rcases List.mem_or_eq_of_mem_set ha with ha | rfl
          · exact hy.2 a ha
          · exact ⟨hki.1, hki.2.1, trivial, trivial⟩
    · rw [gt_ff hf, cond_false, fin ys hy hg1]
      exact .inr ⟨true, rfl, rfl⟩
  · obtain rfl : i = R.length := by omega
    right
    refine ⟨true, ?_, rfl⟩
    simp only [show N.len ys = (R.length : Int) by rw [len_d, hyl], lt_self, cond_false]
    exact fin ys hy hg1

theorem laws_at2 {x : List Int} (h : x.length ≤ 1048576) : ∃ r, laws_at x 2 = some r := by
  unfold laws_at
  by_cases hl : (2 : Int) < N.len x
  · rw [lt_tt hl, cond_true, nite_pos (by omega), nite_pos hl]; exact ⟨_, rfl⟩
  · rw [lt_ff hl, cond_false]; exact ⟨_, rfl⟩
end Go.Sh.D
set_option linter.unusedVariables false
set_option linter.unusedSimpArgs false
namespace Go.Sh.D
open Go Data
/-! ## The draws -/
def libSmall (a : Library) : Prop := ok a ∧ a.2.1.length ≤ 20

theorem withD_small {xs : List Int} (h : ∀ y ∈ xs, ok y) {d : Int} (hd : ok d) : ∀ y ∈ N.withD xs d, ok y := fun y hy => by
  rcases (withD_mem _ _ _).1 hy with rfl | hy
  · exact hd
  · exact h y hy

theorem spec_l29Draw_is {c : l1Cur} (h : curOk c) : Gets (fun r => (1 ≤ r.1.length ∧ r.1.length ≤ 6 ∧ ∀ a ∈ r.1, libSmall a) ∧ curOk r.2) (spec_l29Draw c) := by
  refine Gets.loop (I := fun s => (s.1.length : Int) = s.2.1 ∧ s.2.1 ≤ 6 ∧ (∀ a ∈ s.1, libSmall a) ∧ curOk s.2.2) (m := fun s => 7 - s.2.1.toNat) (fun s hs => ?_) _ ⟨by simp, by simp, fun a ha => by simp at ha, h⟩
  obtain ⟨xs, i, c⟩ := s
  obtain ⟨h1, h2, h3, h4⟩ := hs
  simp only at h1 h2 h3 h4
  refine Gets.bind (spec_l1Below_is h4 (n := 6) (by omega)) fun r1 ⟨g1, g2⟩ => ?_
  have e1 : N.add .i64 1 r1.1 = 1 + r1.1 := add_id (by omega) (by omega)
  refine Gets.cond (fun hc => ?_) fun hc => ?_
  · simp only [e1, lt_d, decide_eq_true_eq] at hc
    refine Gets.bind (spec_l1Once_is g2 (by omega)) fun r2 g3 => Gets.bind (spec_l1Once_is g3 (by omega)) fun r3 g4 => Gets.bind (spec_l1Below_is g4 (n := 4) (by omega)) fun r4 ⟨g5, g6⟩ => ?_
    have e2 : N.mul .i64 2 i = 2 * i := mul_id (by omega) (by omega)
    have e3 : N.add .i64 i 1 = i + 1 := add_id (by omega) (by omega)
    refine Gets.loop (I := fun s : Int × (List Int × Int × Int) × Library => 0 ≤ s.1 ∧ (s.2.2.2.1.length : Int) + s.1 ≤ 4 ∧ ok s.2.2.1 ∧ (∀ y ∈ s.2.2.2.1, ok y) ∧ curOk s.2.1) (m := fun s => s.1.toNat) (fun s hs => ?_) _ ⟨g5.1, by simp; omega, ok_num (by simp only [e2]; omega) (by simp only [e2]; omega), fun y hy => by simp at hy, g6⟩
    obtain ⟨n, c2, x⟩ := s
    obtain ⟨k1, k2, k3, k4, k5⟩ := hs
    simp only at k1 k2 k3 k4 k5
    refine Gets.cond (fun hn => ?_) fun hn => ?_
    · simp only [gt_d, decide_eq_true_eq] at hn
      refine Gets.bind (spec_l1Below_is k5 (n := 4) (by omega)) fun r5 ⟨g7, g8⟩ => ?_
      have hput := spec_l9Put_is (xs := x.2.1) (by omega) r5.1
      simp only [hput, bind_some']
      have e4 : N.sub .i64 n 1 = n - 1 := sub_id (by omega) (by omega)
      have hw := withD_len x.2.1 r5.1
      refine Gets.pure ⟨⟨by simp only [e4]; omega, by simp only [e4]; omega, k3, withD_small k4 (ok_num (by omega) (by omega)), g8⟩, by simp only [e4]; omega⟩
    · refine ⟨.inr (.inl (N.app xs [x], N.add .i64 i 1, c2)), ?_, ⟨by simp only [e3, N.app, List.length_append, List.length_singleton]; omega, by simp only [e3]; omega, fun a ha => ?_, k5⟩, by simp only [e3]; omega⟩
      · rw [nite_pos (fitsN (by simp; omega) (by omega))]; rfl
      · rcases List.mem_append.1 ha with ha | ha
        · exact h3 a ha
        · obtain rfl : a = x := by simpa using ha
          exact ⟨⟨k3, ⟨by omega, k4⟩, trivial, trivial⟩, by omega⟩
  · simp only [e1, lt_d, decide_eq_false_iff_not] at hc
    exact Gets.pure ⟨⟨by simp only; omega, by simp only; omega, h3⟩, g2⟩

theorem spec_l29Any_is {c : l1Cur} (h : curOk c) : Gets (fun r => (r.1.length ≤ 7 ∧ ∀ a ∈ r.1, libSmall a) ∧ curOk r.2) (spec_l29Any c) := by
  refine Gets.bind (spec_l29Draw_is h) fun r ⟨⟨h1, h2, h3⟩, h4⟩ => Gets.bind (spec_l1Below_is h4 (by rw [len_d]; omega)) fun r2 ⟨g1, g2⟩ => Gets.bind (spec_l1Below_is g2 (n := 9) (by omega)) fun r3 ⟨g3, g4⟩ => ?_
  have hi : r2.1.toNat < r.1.length := by
    have := g1.2
    rw [len_d] at this
    omega
  have hrd : ∀ d, N.rd r.1 r2.1 d = r.1[r2.1.toNat] := fun d => by unfold N.rd; simp [List.getD, hi]
  have hk := h3 _ (List.getElem_mem hi)
  have hset : ∀ v, libSmall v → ∀ a ∈ N.set r.1 r2.1 v, libSmall a := fun v hv a ha => by
    rcases List.mem_or_eq_of_mem_set ha with ha | rfl
    · exact h3 a ha
    · exact hv
  have hln : ∀ v, (N.set r.1 r2.1 v).length ≤ 7 := fun v => by simp [N.set]; omega
  refine Gets.cond (fun _ => ?_) fun _ => Gets.cond (fun _ => ?_) fun _ => Gets.cond (fun _ => ?_) fun _ => Gets.pure ⟨⟨by simp only; omega, h3⟩, g4⟩
  · refine Gets.bind (spec_l4Raw_is g4) fun r4 ⟨g5, g6⟩ => Gets.ite g1.1 (Gets.ite g1.2 (Gets.let_ (Gets.pure ⟨⟨hln _, hset _ ?_⟩, g6⟩)))
    rw [hrd]
    exact ⟨⟨g5, hk.1.2⟩, hk.2⟩
  · refine Gets.ite g1.1 (Gets.ite g1.2 (Gets.let_ (Gets.pure ⟨⟨hln _, hset _ ?_⟩, g4⟩)))
    rw [hrd]
    refine ⟨⟨hk.1.1, ⟨by simp, fun y hy => ?_⟩, trivial, trivial⟩, by simp⟩
    simp only [List.mem_cons, List.not_mem_nil, or_false] at hy
    rcases hy with rfl | rfl <;> exact ⟨by decide, by decide⟩
  · refine Gets.ite (by rw [len_d]; omega) (Gets.ite (fitsN (by simp; omega) (by omega)) (Gets.pure ⟨⟨by simp [N.app]; omega, fun a ha => ?_⟩, g4⟩))
    rcases List.mem_append.1 ha with ha | ha
    · exact h3 a ha
    · have h0 : N.rd r.1 0 (0, [], false, false) = r.1[0]'(by omega) := rd_at r.1 0 (by omega) _
      rw [h0] at ha
      obtain rfl : a = _ := by simpa using ha
      exact h3 _ (List.getElem_mem _)

theorem spec_DrawRepairCopies_is {x : List Int} (h : x.length ≤ 1048576) : Gets (fun r => (r.1.length ≤ 7 ∧ ∀ a ∈ r.1, libSmall a) ∧ bd r.2.1) (spec_DrawRepairCopies x) := by
  have hk : ∀ x ∈ ([0, 1, 2, 3, 9, (-1), 9223372036854775807] : List Int), ok x := fun x hx => by
    simp only [List.mem_cons, List.mem_nil_iff, or_false] at hx
    rcases hx with rfl | rfl | rfl | rfl | rfl | rfl | rfl <;> exact ⟨by decide, by decide⟩
  refine Gets.bind (P := fun r => (r.1.length ≤ 7 ∧ ∀ a ∈ r.1, libSmall a) ∧ bd r.2) ?_ fun r hr => Gets.bind (spec_l1New_is h) fun r2 h2 => Gets.bind (spec_l1Int_is h2 (by simp) hk) fun r3 _ => Gets.pure hr
  exact Gets.bind (spec_l1New_is h) fun r h1 => Gets.bind (spec_l29Any_is h1) fun r2 ⟨h2, h3⟩ => Gets.bind (spec_l1Below_is h3 (n := 5) (by omega)) fun r3 ⟨h4, _⟩ => Gets.pure ⟨h2, ⟨by simp only; omega, by simp only; omega⟩⟩

theorem FnKept_true (x : List Int) (hx : bd x) : laws_FnKept x = some true := by
  unfold laws_FnKept laws_big
  rw [bind_some', len_d, gt_d, cond_dec]
  by_cases hl : x.length ≤ 1048576
  · rw [if_neg (by omega)]
    obtain ⟨⟨l, d, k⟩, e, ⟨h7, hsm⟩, hbd⟩ := spec_DrawRepairCopies_is hl
    simp only at h7 hsm hbd
    have hok : ok l := ⟨by omega, fun a ha => (hsm a ha).1⟩
    have hd : ∀ a ∈ l, a.2.1.length ≤ 1048575 := fun a ha => by have := (hsm a ha).2; omega
    obtain ⟨at2, hat⟩ := laws_at2 hl
    have hro := repair_ok hok hd hbd k
    rw [e, bind_some']
    simp only [impl_RepairCopies_is hok hd hbd, bind_some']
    by_cases hfix : libsP l = true ∧ countAt (fun _ a => goodP d a) l 0 ≠ 0
    · have hrep : repairP l d k = (updP d ((orderP (idsP l d) d).take (stepsP l d k)) l, true) := by unfold repairP; rw [if_pos hfix]
      rw [hrep] at hro ⊢
      simp only at hro
      have hn := libs_nodup hfix.1
      obtain ⟨t1, t2⟩ := take_order (x := d) hn (stepsP l d k)
      have hh := holders_upd hn t1 t2
      have hti : ((orderP (idsP l d) d).take (stepsP l d k)).length = stepsP l d k := by have := steps_le l d k; simp; omega
      rw [hti] at hh
      have hlib := libs_upd hfix.1 d ((orderP (idsP l d) d).take (stepsP l d k))
      have hg0 := good_upd d ((orderP (idsP l d) d).take (stepsP l d k)) l
      have hgl : 1 ≤ (l.countP (goodP d) : Int) := by
        have := hfix.2
        rw [countAt_countP] at this
        omega
      have hfull : stepsP l d k = (orderP (idsP l d) d).length → ((holdersP l d).length : Int) + stepsP l d k = (l.countP fun a => a.2.2.1 : Nat) := fun he => by
        rw [he, orderP_full (hn.sublist (idsP_sub l d)), up_count l d, holders_count]; omega
      have hend := steps_end l d k
      generalize updP d ((orderP (idsP l d) d).take (stepsP l d k)) l = R at *
      have hT := kept_tail R hro d at2 (by omega)
      simp only [show N.not true = false from rfl, cond_false, hat, hT]
      refine (loop_upto l.length (fun (i : Nat) (n : Int) => (n, (i : Int))) (fun i => (((l.take i).countP fun a => a.2.2.1 : Nat) : Int)) true (fun i hi => ?_) ?_ :)
      · have hc : ((l.take i).countP fun a => a.2.2.1) ≤ i := Nat.le_trans List.countP_le_length (by simp; omega)
        simp only [len_d l, lt_tt (show (i : Int) < (l.length : Int) by omega), cond_true, rd_at l i hi, next_id hi (by omega)]
        rw [nite_pos (by omega), nite_pos (by omega), List.take_succ_eq_append_getElem hi, List.countP_append]
        cases hu : (l[i]).2.2.1 with
        | false => rw [cond_false]; simp [hu]
        | true => rw [cond_true, add_id (by omega) (by omega)]; simp [hu]
      · simp only [len_d l, lt_self, cond_false, List.take_length]
        rw [impl_HoldersOf_is hro, bind_some', impl_AreLibraries_is hro, bind_some', hlib, show N.not true = false from rfl, cond_false, impl_HoldersOf_is hok, bind_some', len_d, len_d, lt_ff (by omega), cond_false]
        by_cases k0 : 0 ≤ k
        · rw [show N.ge k 0 = true by rw [ge_d]; exact decide_eq_true k0, cond_true]
          by_cases k1 : ((holdersP R d).length : Int) < k
          · have hf := hfull (hend.resolve_right (by omega))
            rw [lt_tt k1, cond_true, lt_ff (by omega), cond_false]; rfl
          · rw [lt_ff k1, cond_false]; rfl
        · rw [show N.ge k 0 = false by rw [ge_d]; exact decide_eq_false k0, cond_false]; rfl
    · have hrep : repairP l d k = (l, false) := by unfold repairP; rw [if_neg hfix]
      rw [hrep]
      simp only [show N.not false = true from rfl, cond_true, impl_EqualLibraries_is hok, bind_some']
      simp
  · rw [if_pos (by omega)]
end Go.Sh.D
