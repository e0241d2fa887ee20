/- The native forms of the functions that FnExactRepairCopies reaches, and their pure laws, part 2: FnExactRepairCopies is true for every input of bounded parts. No condition beyond the bounds that every input keeps. -/
import Derived.Test.YtekclbjiifiahabPuFnExactRepairCopiesp1
set_option linter.unusedVariables false
set_option linter.unusedSimpArgs false
namespace Go.Sh.D
open Go
theorem bsearch_to {R : Type} {step : Int × Int → Option ((Int × Int) ⊕ R)} (p : Nat → Bool) (out : Nat → Option R) (lo hi : Nat) {goal : Option R} (hlh : lo ≤ hi)
    (hstep : ∀ i j : Nat, lo ≤ i → i < j → j ≤ hi → step ((i : Int), (j : Int)) = if p ((i + j) / 2) = true then some (.inl ((((i + j) / 2 + 1 : Nat) : Int), (j : Int))) else some (.inl ((i : Int), (((i + j) / 2 : Nat) : Int))))
    (hend : ∀ i : Nat, lo ≤ i → i ≤ hi → step ((i : Int), (i : Int)) = (out i).map .inr)
    (hfin : ∀ i : Nat, lo ≤ i → i ≤ hi → (i = lo ∨ p (i - 1) = true) → (i = hi ∨ p i = false) → out i = goal) : loopF step ((lo : Int), (hi : Int)) = goal := by
  obtain ⟨i, h1, h2, h3, h4, h5⟩ := bsearch step p out lo hi hlh hstep hend
  rw [h5]; exact hfin i h1 h2 h3 h4

theorem lt_self (i : Int) : N.lt i i = false := by simp [N.lt]
theorem lt_tt {a b : Int} (h : a < b) : N.lt a b = true := by rw [lt_d]; exact decide_eq_true h
theorem lt_ff {a b : Int} (h : ¬ a < b) : N.lt a b = false := by rw [lt_d]; exact decide_eq_false h
theorem gt_tt {a b : Int} (h : b < a) : N.gt a b = true := by rw [gt_d]; exact decide_eq_true h
theorem gt_ff {a b : Int} (h : ¬ b < a) : N.gt a b = false := by rw [gt_d]; exact decide_eq_false h
theorem eq_tt {a b : Int} (h : a = b) : N.eq a b = true := by rw [eq_d]; exact decide_eq_true h
theorem eq_ff {a b : Int} (h : ¬ a = b) : N.eq a b = false := by rw [eq_d]; exact decide_eq_false h
theorem cond_ite {R : Type} (b : Bool) (x y : Option R) : N.cond b x y = if b = true then x else y := rfl
theorem not_d (b : Bool) : N.not b = !b := rfl

theorem symMerge_f (c : Int) : ∀ n, Merges c (fun x a m b => slices_symMergeCmpFunc_int_impl_OrderFor_1_f n x a m b c) n
  | 0 => fun P U V S h1 h2 h3 => by omega
  | n + 1 => by
    have ih := symMerge_f c n
    intro P U V S h1 h2 h3 hb hU hV hQ a m b ha hm hbb
    have hma : N.sub .i64 m a = (U.length : Int) := by rw [sub_id (by omega) (by omega)]; omega
    have hbm : N.sub .i64 b m = (V.length : Int) := by rw [sub_id (by omega) (by omega)]; omega
    have hlen : N.len (P ++ (U ++ (V ++ S))) = ((P.length + U.length + V.length + S.length : Nat) : Int) := by rw [len_d]; simp; omega
    have hmid : N.conv .i64 (N.shr .u64 (N.conv .u64 (N.add .i64 a b)) 1) = (((P.length + (P.length + U.length + V.length)) / 2 : Nat) : Int) := by
      rw [ha, hbb]; exact half_is _ _ (by omega)
    show slices_symMergeCmpFunc_int_impl_OrderFor_1_f (n + 1) _ a m b c = _
    rw [slices_symMergeCmpFunc_int_impl_OrderFor_1_f]
    simp only [hma, hbm, hmid]
    by_cases c1 : U.length = 1
    · rw [eq_tt (by omega), cond_true]
      obtain ⟨u, rfl⟩ : ∃ u, U = [u] := List.length_eq_one_iff.1 c1
      have hru : N.rd (P ++ ([u] ++ (V ++ S))) a 0 = u := by
        have := rdL P [u] (V ++ S) 0 (by simp)
        rw [ha]; simpa using this
      subst hm hbb
      refine bsearch_to (fun h => ltP c (V.getD (h - (P.length + [u].length)) 0) u) (fun i => some (P ++ ((V.take (i - (P.length + [u].length)) ++ (u :: V.drop (i - (P.length + [u].length)))) ++ S))) (P.length + [u].length) (P.length + [u].length + V.length) (by omega) (fun i j q1 q2 q3 => ?_) (fun i q1 q2 => ?_) (fun i q1 q2 q3 q4 => ?_)
      · have hh := half_is i j (by omega)
        obtain ⟨q, hq⟩ : ∃ q, (i + j) / 2 = P.length + [u].length + q := ⟨(i + j) / 2 - (P.length + [u].length), by omega⟩
        have hqV : q < V.length := by omega
        have hrv := rdL2 P [u] V S q hqV
        obtain ⟨r, hr, hr2⟩ := cmp_is V[q] u c
        have hg : V.getD (P.length + [u].length + q - (P.length + [u].length)) 0 = V[q] := by simp [hqV]
        have hn1 : N.add .i64 ((P.length + [u].length + q : Nat) : Int) 1 = ((P.length + [u].length + q + 1 : Nat) : Int) := by rw [add_id (by omega) (by omega)]; omega
        simp only [lt_tt (show (i : Int) < (j : Int) by omega), cond_true, hh]
        rw [hq]
        simp only [hlen, hrv, hru, hr, bind_some', hr2, cond_ite, hn1, hg]
        rw [nite_pos (by omega), nite_pos (by omega), nite_pos (by omega), nite_pos (by omega)]
      · simp only [lt_self, cond_false]
        have hk : i - (P.length + [u].length) ≤ V.length := by omega
        have e1 : N.sub .i64 (i : Int) 1 = ((P.length + (V.take (i - (P.length + [u].length))).length : Nat) : Int) := by
          have : (V.take (i - (P.length + [u].length))).length = i - (P.length + [u].length) := by simp; omega
          simp only [List.length_cons, List.length_nil] at q1 q2 this ⊢
          rw [this, sub_id (by omega) (by omega)]; omega
        have := moveR_is P (V.take (i - (P.length + [u].length))) (V.drop (i - (P.length + [u].length)) ++ S) u (a := a) (e := (i : Int)) ha e1 (by simp; omega)
        rw [show (P ++ (u :: (V.take (i - (P.length + [u].length)) ++ (V.drop (i - (P.length + [u].length)) ++ S)))) = P ++ ([u] ++ (V ++ S)) by rw [← List.append_assoc (V.take _), List.take_append_drop]; rfl] at this
        rw [this]; simp
      · have := sm_case1 c P V S u (by simpa using hb) hV (fun v hv => hQ u (by simp) v hv) (i - (P.length + [u].length)) (by omega) ?_ ?_
        · simp only [this]
        · rcases q3 with q3 | q3
          · exact .inl (by omega)
          · by_cases h0 : i = P.length + [u].length
            · exact .inl (by omega)
            · have hlt : i - (P.length + [u].length) - 1 < V.length := by omega
              refine .inr ⟨hlt, ?_⟩
              have e : V.getD (i - (P.length + [u].length) - 1) 0 = V[i - (P.length + [u].length) - 1] := by rw [List.getD, List.getElem?_eq_getElem hlt]; rfl
              rw [show i - 1 - (P.length + [u].length) = i - (P.length + [u].length) - 1 by omega, e] at q3
              exact q3
        · rcases q4 with q4 | q4
          · exact .inl (by omega)
          · by_cases h0 : i = P.length + [u].length + V.length
            · exact .inl (by omega)
            · have hlt : i - (P.length + [u].length) < V.length := by omega
              refine .inr ⟨hlt, ?_⟩
              have e : V.getD (i - (P.length + [u].length)) 0 = V[i - (P.length + [u].length)] := by rw [List.getD, List.getElem?_eq_getElem hlt]; rfl
              rw [e] at q4
              exact q4
    · rw [eq_ff (by omega), cond_false]
      by_cases c2 : V.length = 1
      · rw [eq_tt (by omega), cond_true]
        obtain ⟨v, rfl⟩ : ∃ v, V = [v] := List.length_eq_one_iff.1 c2
        have hrv : N.rd (P ++ (U ++ ([v] ++ S))) m 0 = v := by
          have := rdL2 P U [v] S 0 (by simp)
          rw [hm]; simpa using this
        subst ha
        have hm0 := hm
        rw [hm]
        rw [hm] at hrv
        refine bsearch_to (fun h => !ltP c v (U.getD (h - P.length) 0)) (fun i => some (P ++ ((U.take (i - P.length) ++ (v :: U.drop (i - P.length))) ++ S))) P.length (P.length + U.length) (by omega) (fun i j q1 q2 q3 => ?_) (fun i q1 q2 => ?_) (fun i q1 q2 q3 q4 => ?_)
        · have hh := half_is i j (by omega)
          obtain ⟨q, hq⟩ : ∃ q, (i + j) / 2 = P.length + q := ⟨(i + j) / 2 - P.length, by omega⟩
          have hqU : q < U.length := by omega
          have hru := rdL P U ([v] ++ S) q hqU
          obtain ⟨r, hr, hr2⟩ := cmp_is v U[q] c
          have hg : U.getD (P.length + q - P.length) 0 = U[q] := by simp [hqU]
          have hn1 : N.add .i64 ((P.length + q : Nat) : Int) 1 = ((P.length + q + 1 : Nat) : Int) := by rw [add_id (by omega) (by omega)]; omega
          simp only [lt_tt (show (i : Int) < (j : Int) by omega), cond_true, hh]
          rw [hq]
          simp only [hlen, hrv, hru, hr, bind_some', hr2, not_d, cond_ite, hn1, hg]
          rw [nite_pos (by omega), nite_pos (by omega), nite_pos (by omega), nite_pos (by omega)]
        · simp only [lt_self, cond_false]
          have hl : (U.take (i - P.length)).length = i - P.length := by simp; omega
          have := moveL_is (P ++ U.take (i - P.length)) (U.drop (i - P.length)) S v (e := (i : Int)) (m := ((P.length + U.length : Nat) : Int)) (by simp only [List.length_append, hl]; omega) (by simp only [List.length_append, hl, List.length_drop]; omega) (by simp only [List.length_append, hl, List.length_drop]; omega)
          rw [show (P ++ U.take (i - P.length)) ++ (U.drop (i - P.length) ++ (v :: S)) = P ++ (U ++ ([v] ++ S)) by rw [List.append_assoc, ← List.append_assoc (U.take _), List.take_append_drop]; rfl] at this
          rw [this]; simp
        · have := sm_case2 c P U S v hU (fun u hu => hQ u hu v (by simp)) (i - P.length) (by omega) ?_ ?_
          · simp only [this]
          · rcases q3 with q3 | q3
            · exact .inl (by omega)
            · by_cases h0 : i = P.length
              · exact .inl (by omega)
              · have hlt : i - P.length - 1 < U.length := by omega
                refine .inr ⟨hlt, ?_⟩
                rw [show i - 1 - P.length = i - P.length - 1 by omega] at q3
                simpa [List.getD, hlt] using q3
          · rcases q4 with q4 | q4
            · exact .inl (by omega)
            · by_cases h0 : i = P.length + U.length
              · exact .inl (by omega)
              · have hlt : i - P.length < U.length := by omega
                refine .inr ⟨hlt, ?_⟩
                simpa [List.getD, hlt] using q4
      · rw [eq_ff (by omega), cond_false]
        generalize hM : (P.length + (P.length + U.length + V.length)) / 2 = mid
        rw [hM] at hmid
        have hnn : N.sub .i64 (N.add .i64 (mid : Int) m) 1 = ((mid + (P.length + U.length) - 1 : Nat) : Int) := by rw [add_id (by omega) (by omega), sub_id (by omega) (by omega)]; omega
        -- a round of the search
        have round : ∀ (i j q : Nat), (i + j) / 2 = P.length + q → i < j → i + j < 4611686018427387904 → q < U.length → P.length + q < mid → mid - (P.length + q) - 1 < V.length →
            N.sub .i64 ((mid + (P.length + U.length) - 1 : Nat) : Int) ((P.length + q : Nat) : Int) = ((P.length + U.length + (mid - (P.length + q) - 1) : Nat) : Int) := fun i j q g1 g2 g3 g4 g5 g6 => by
          rw [sub_id (by omega) (by omega)]; omega
        subst ha hm hbb
        by_cases c3 : ((mid : Nat) : Int) < ((P.length + U.length : Nat) : Int)
        · rw [gt_tt c3, cond_true]
          have hs0 : N.sub .i64 (N.add .i64 (mid : Int) ((P.length + U.length : Nat) : Int)) ((P.length + U.length + V.length : Nat) : Int) = ((mid - V.length : Nat) : Int) := by rw [add_id (by omega) (by omega), sub_id (by omega) (by omega)]; omega
          simp only [hs0, hnn]
          refine bsearch_to (fun h => !ltP c (V.getD (mid - h - 1) 0) (U.getD (h - P.length) 0)) (fun i => smT (fun x a m b => slices_rotateCmpFunc_int_impl_OrderFor_1 x a m b c) (fun x a m b => slices_symMergeCmpFunc_int_impl_OrderFor_1_f n x a m b c) (P.length : Int) ((P.length + U.length : Nat) : Int) ((P.length + U.length + V.length : Nat) : Int) (mid : Int) (P ++ (U ++ (V ++ S))) (i : Int)) (mid - V.length) mid (by omega) (fun i j q1 q2 q3 => ?_) (fun i q1 q2 => ?_) (fun i q1 q2 q3 q4 => ?_)
          · have hh := half_is i j (by omega)
            obtain ⟨q, hq⟩ : ∃ q, (i + j) / 2 = P.length + q := ⟨(i + j) / 2 - P.length, by omega⟩
            have hqU : q < U.length := by omega
            have hqV : mid - (P.length + q) - 1 < V.length := by omega
            have hpc := round i j q hq q2 (by omega) hqU (by omega) hqV
            have hru := rdL P U (V ++ S) q hqU
            have hrv := rdL2 P U V S _ hqV
            obtain ⟨r, hr, hr2⟩ := cmp_is V[mid - (P.length + q) - 1] U[q] c
            have hg : U.getD (P.length + q - P.length) 0 = U[q] := by simp [hqU]
            have hg2 : V.getD (mid - (P.length + q) - 1) 0 = V[mid - (P.length + q) - 1] := by simp [hqV]
            have hn1 : N.add .i64 ((P.length + q : Nat) : Int) 1 = ((P.length + q + 1 : Nat) : Int) := by rw [add_id (by omega) (by omega)]; omega
            simp only [lt_tt (show (i : Int) < (j : Int) by omega), cond_true, hh]
            rw [hq]
            simp only [hpc, hlen, hrv, hru, hr, bind_some', hr2, not_d, cond_ite, hn1, hg, hg2]
            rw [nite_pos (by omega), nite_pos (by omega), nite_pos (by omega), nite_pos (by omega)]
          · simp only [lt_self, cond_false]
            rfl
          · have := sm_mid c ih P U V S h3 (by omega) (by omega) hb hU hV hQ (i - P.length) (by omega) mid hM.symm (by omega) (by omega) ?_ ?_
            · rw [show ((P.length + (i - P.length) : Nat) : Int) = (i : Int) by omega] at this
              exact this
            · by_cases h0 : i = mid - V.length
              · exact .inl (.inr (by omega))
              · rcases q3 with q3 | q3
                · exact absurd q3 h0
                · have a1 : i - P.length - 1 < U.length := by omega
                  have a2 : mid - (P.length + (i - P.length)) < V.length := by omega
                  refine .inr ⟨a1, a2, ?_⟩
                  rw [show mid - (i - 1) - 1 = mid - (P.length + (i - P.length)) by omega, show i - 1 - P.length = i - P.length - 1 by omega] at q3
                  simpa [List.getD, a1, a2] using q3
            · by_cases h0 : i = mid
              · exact .inl (.inr (by omega))
              · rcases q4 with q4 | q4
                · exact absurd q4 h0
                · have a1 : i - P.length < U.length := by omega
                  have a2 : mid - (P.length + (i - P.length)) - 1 < V.length := by omega
                  refine .inr ⟨a1, a2, ?_⟩
                  rw [show mid - i - 1 = mid - (P.length + (i - P.length)) - 1 by omega] at q4
                  simpa [List.getD, a1, a2] using q4
        · rw [gt_ff c3, cond_false]
          simp only [hnn]
          refine bsearch_to (fun h => !ltP c (V.getD (mid - h - 1) 0) (U.getD (h - P.length) 0)) (fun i => smT (fun x a m b => slices_rotateCmpFunc_int_impl_OrderFor_1 x a m b c) (fun x a m b => slices_symMergeCmpFunc_int_impl_OrderFor_1_f n x a m b c) (P.length : Int) ((P.length + U.length : Nat) : Int) ((P.length + U.length + V.length : Nat) : Int) (mid : Int) (P ++ (U ++ (V ++ S))) (i : Int)) P.length (P.length + U.length) (by omega) (fun i j q1 q2 q3 => ?_) (fun i q1 q2 => ?_) (fun i q1 q2 q3 q4 => ?_)
          · have hh := half_is i j (by omega)
            obtain ⟨q, hq⟩ : ∃ q, (i + j) / 2 = P.length + q := ⟨(i + j) / 2 - P.length, by omega⟩
            have hqU : q < U.length := by omega
            have hqV : mid - (P.length + q) - 1 < V.length := by omega
            have hpc := round i j q hq q2 (by omega) hqU (by omega) hqV
            have hru := rdL P U (V ++ S) q hqU
            have hrv := rdL2 P U V S _ hqV
            obtain ⟨r, hr, hr2⟩ := cmp_is V[mid - (P.length + q) - 1] U[q] c
            have hg : U.getD (P.length + q - P.length) 0 = U[q] := by simp [hqU]
            have hg2 : V.getD (mid - (P.length + q) - 1) 0 = V[mid - (P.length + q) - 1] := by simp [hqV]
            have hn1 : N.add .i64 ((P.length + q : Nat) : Int) 1 = ((P.length + q + 1 : Nat) : Int) := by rw [add_id (by omega) (by omega)]; omega
            simp only [lt_tt (show (i : Int) < (j : Int) by omega), cond_true, hh]
            rw [hq]
            simp only [hpc, hlen, hrv, hru, hr, bind_some', hr2, not_d, cond_ite, hn1, hg, hg2]
            rw [nite_pos (by omega), nite_pos (by omega), nite_pos (by omega), nite_pos (by omega)]
          · simp only [lt_self, cond_false]
            rfl
          · have := sm_mid c ih P U V S h3 (by omega) (by omega) hb hU hV hQ (i - P.length) (by omega) mid hM.symm (by omega) (by omega) ?_ ?_
            · rw [show ((P.length + (i - P.length) : Nat) : Int) = (i : Int) by omega] at this
              exact this
            · by_cases h0 : i = P.length
              · exact .inl (.inl (by omega))
              · rcases q3 with q3 | q3
                · exact absurd q3 h0
                · have a1 : i - P.length - 1 < U.length := by omega
                  have a2 : mid - (P.length + (i - P.length)) < V.length := by omega
                  refine .inr ⟨a1, a2, ?_⟩
                  rw [show mid - (i - 1) - 1 = mid - (P.length + (i - P.length)) by omega, show i - 1 - P.length = i - P.length - 1 by omega] at q3
                  simpa [List.getD, a1, a2] using q3
            · by_cases h0 : i = P.length + U.length
              · exact .inl (.inl (by omega))
              · rcases q4 with q4 | q4
                · exact absurd q4 h0
                · have a1 : i - P.length < U.length := by omega
                  have a2 : mid - (P.length + (i - P.length)) - 1 < V.length := by omega
                  refine .inr ⟨a1, a2, ?_⟩
                  rw [show mid - i - 1 = mid - (P.length + (i - P.length)) - 1 by omega] at q4
                  simpa [List.getD, a1, a2] using q4

theorem symMerge_is (c : Int) : ∀ n, Merges c (fun x a m b => slices_symMergeCmpFunc_int_impl_OrderFor_1 x a m b c) n := by
  intro n P U V S h1 h2 h3 hb hU hV hQ a m b ha hm hbb
  have := symMerge_f c ((P ++ (U ++ (V ++ S))).length + 1) P U V S h1 h2 (by simp; omega) hb hU hV hQ a m b ha hm hbb
  exact this
end Go.Sh.D
set_option linter.unusedVariables false
set_option linter.unusedSimpArgs false
namespace Go.Sh.D
open Go
theorem le_tt {a b : Int} (h : a ≤ b) : N.le a b = true := by rw [le_d]; exact decide_eq_true h
theorem le_ff {a b : Int} (h : ¬ a ≤ b) : N.le a b = false := by rw [le_d]; exact decide_eq_false h

theorem Qp_parts {c : Int} {P U V S : List Int} (h : (P ++ (U ++ (V ++ S))).Pairwise (Qp (leP c) (ltP c))) : U.Pairwise (Qp (leP c) (ltP c)) ∧ ∀ u ∈ U, ∀ v ∈ V, Qp (leP c) (ltP c) u v := by
  have h1 := (List.pairwise_append.1 h).2.1
  have h2 := List.pairwise_append.1 h1
  exact ⟨h2.1, fun u hu v hv => h2.2.2 u hu v (List.mem_append_left _ hv)⟩

/-- merging the blocks of s, two and two -/
theorem merge_round (c : Int) (n s : Nat) (hn : n < 576460752303423488) (hs : 0 < s) (hsn : s < n) {β : Type} (xs : List Int) : ∀ (m q : Nat) (done todo : List Int), todo.length ≤ m → (done ++ todo).length = n → done.length = q * (2 * s) → BS (leP c) (2 * s) done → BS (leP c) s todo →
    (done ++ todo).Pairwise (Qp (leP c) (ltP c)) → (done ++ todo).Perm xs →
    ∀ (step : Int × Int × List Int → Option ((Int × Int × List Int) ⊕ ((Int × List Int) ⊕ β))), step = (fun (s3 : Int × Int × List Int) =>
                            N.cond (N.le s3.2.1 (n : Int))
                              (N.bind (slices_symMergeCmpFunc_int_impl_OrderFor_1 s3.2.2 s3.1 (N.add .i64 s3.1 (s : Int)) s3.2.1 c) fun r3 =>
                                  some (.inl (s3.2.1, N.add .i64 s3.2.1 (N.mul .i64 2 (s : Int)), r3)))
                              (Option.map Sum.inr
                                  (N.cond (N.lt (N.add .i64 s3.1 (s : Int)) (n : Int))
                                      (N.bind (slices_symMergeCmpFunc_int_impl_OrderFor_1 s3.2.2 s3.1 (N.add .i64 s3.1 (s : Int)) (n : Int) c) fun r4 =>
                                          some (.inl (N.mul .i64 (s : Int) 2, r4)))
                                      (some (.inl (N.mul .i64 (s : Int) 2, s3.2.2)))))) →
    ∃ l, loopF step ((done.length : Int), ((done.length + 2 * s : Nat) : Int), done ++ todo) = some (.inl (((2 * s : Nat) : Int), l)) ∧ l.length = n ∧ BS (leP c) (2 * s) l ∧ l.Pairwise (Qp (leP c) (ltP c)) ∧ l.Perm xs := by
  intro m
  induction m with
  | zero =>
    intro q done todo hm hl hd hBd hBt hq hp step hst
    obtain rfl : todo = [] := List.length_eq_zero_iff.1 (by omega)
    rw [List.append_nil] at *
    have e1 : N.add .i64 (done.length : Int) (s : Int) = ((done.length + s : Nat) : Int) := by rw [add_id (by omega) (by omega)]; omega
    have e2 : N.mul .i64 (s : Int) 2 = ((2 * s : Nat) : Int) := by rw [mul_id (by omega) (by omega)]; omega
    refine ⟨done, loopF_inr ?_, hl, hBd, hq, hp⟩
    rw [hst]
    simp only [le_ff (show ¬ ((done.length + 2 * s : Nat) : Int) ≤ (n : Int) by omega), cond_false, e1, lt_ff (show ¬ ((done.length + s : Nat) : Int) < (n : Int) by omega), e2]
    rfl
  | succ m ih =>
    intro q done todo hm hl hd hBd hBt hq hp step hst
    rw [List.length_append] at hl
    have e1 : N.add .i64 (done.length : Int) (s : Int) = ((done.length + s : Nat) : Int) := by rw [add_id (by omega) (by omega)]; omega
    have e2 : N.mul .i64 (s : Int) 2 = ((2 * s : Nat) : Int) := by rw [mul_id (by omega) (by omega)]; omega
    have e3 : N.mul .i64 2 (s : Int) = ((2 * s : Nat) : Int) := by rw [mul_id (by omega) (by omega)]; omega
    have e4 : N.add .i64 ((done.length + 2 * s : Nat) : Int) ((2 * s : Nat) : Int) = ((done.length + 2 * s + 2 * s : Nat) : Int) := by rw [add_id (by omega) (by omega)]; omega
    -- the two blocks ahead
    have hU := BS_head hBt
    have hV := BS_head (BS_tail hBt)
    have ht : todo.take s ++ ((todo.drop s).take s ++ (todo.drop s).drop s) = todo := by rw [List.take_append_drop, List.take_append_drop]
    have lU : (todo.take s).length = min s todo.length := by simp
    have lV : ((todo.drop s).take s).length = min s (todo.length - s) := by simp
    have hBr := BS_tail (BS_tail hBt)
    have lR : ((todo.drop s).drop s).length = todo.length - s - s := by simp; omega
    generalize todo.take s = U at *
    generalize (todo.drop s).take s = V at *
    generalize (todo.drop s).drop s = T at *
    subst ht
    rw [List.length_append, List.length_append] at *
    have hqp := Qp_parts hq
    have srtlen : ((U ++ V).mergeSort (leP c)).length = U.length + V.length := by rw [List.length_mergeSort]; simp
    have hq' : (done ++ ((U ++ V).mergeSort (leP c) ++ T)).Pairwise (Qp (leP c) (ltP c)) := by
      have := Ordr.rep (le := leP c) (lt := ltP c) (P := done) (U := U ++ V) (U' := (U ++ V).mergeSort (leP c)) (S := T) (by simpa using hq) (List.mergeSort_perm _ _) ((rk_ord c).asc _)
      simpa using this
    have hp' : (done ++ ((U ++ V).mergeSort (leP c) ++ T)).Perm xs := by
      refine List.Perm.trans ?_ hp
      refine List.Perm.append_left _ ?_
      rw [← List.append_assoc]
      exact (List.mergeSort_perm _ _).append_right _
    by_cases hfull : done.length + 2 * s ≤ n
    · have hUs : U.length = s := by omega
      have hVs : V.length = s := by omega
      have hsm := symMerge_is c (2 * s) done U V T (by omega) (by omega) (by omega) (by omega) hU hV hqp.2 (done.length : Int) ((done.length + s : Nat) : Int) ((done.length + 2 * s : Nat) : Int) rfl (by omega) (by omega)
      have hsm : slices_symMergeCmpFunc_int_impl_OrderFor_1 (done ++ (U ++ (V ++ T))) (done.length : Int) ((done.length + s : Nat) : Int) ((done.length + 2 * s : Nat) : Int) c = some (done ++ ((U ++ V).mergeSort (leP c) ++ T)) := hsm
      have hstep : step ((done.length : Int), ((done.length + 2 * s : Nat) : Int), done ++ (U ++ (V ++ T))) = some (.inl (((done.length + 2 * s : Nat) : Int), ((done.length + 2 * s + 2 * s : Nat) : Int), done ++ ((U ++ V).mergeSort (leP c) ++ T))) := by
        rw [hst]
        simp only [le_tt (show ((done.length + 2 * s : Nat) : Int) ≤ (n : Int) by omega), cond_true, e1, hsm, bind_some', e3, e4]
      rw [loopF_inl hstep]
      have hdl : (done ++ (U ++ V).mergeSort (leP c)).length = done.length + 2 * s := by rw [List.length_append, srtlen]; omega
      obtain ⟨l, r1, r2⟩ := ih (q + 1) (done ++ (U ++ V).mergeSort (leP c)) T (by omega) (by rw [List.length_append, hdl]; omega) (by rw [hdl, hd, Nat.add_mul]; omega) (BS_app hBd hd ((rk_ord c).asc _) (by rw [srtlen]; omega)) hBr (by rw [List.append_assoc]; exact hq') (by rw [List.append_assoc]; exact hp') step hst
      rw [hdl, List.append_assoc] at r1
      exact ⟨l, r1, r2⟩
    · have hT : T = [] := List.length_eq_zero_iff.1 (by omega)
      subst hT
      rw [List.append_nil] at *
      by_cases hsome : done.length + s < n
      · have hUs : U.length = s := by omega
        have hsm := symMerge_is c (2 * s) done U V [] (by omega) (by omega) (by omega) (by omega) hU hV hqp.2 (done.length : Int) ((done.length + s : Nat) : Int) (n : Int) rfl (by omega) (by simp only [List.length_nil] at hl; omega)
        have hsm : slices_symMergeCmpFunc_int_impl_OrderFor_1 (done ++ (U ++ (V ++ []))) (done.length : Int) ((done.length + s : Nat) : Int) (n : Int) c = some (done ++ ((U ++ V).mergeSort (leP c) ++ [])) := hsm
        rw [List.append_nil, List.append_nil] at hsm
        refine ⟨done ++ (U ++ V).mergeSort (leP c), loopF_inr ?_, by rw [List.length_append, srtlen]; simp only [List.length_nil] at hl; omega, BS_app hBd hd ((rk_ord c).asc _) (by rw [srtlen]; omega), hq', hp'⟩
        rw [hst]
        simp only [le_ff (show ¬ ((done.length + 2 * s : Nat) : Int) ≤ (n : Int) by omega), cond_false, e1, lt_tt (show ((done.length + s : Nat) : Int) < (n : Int) by omega), cond_true, hsm, bind_some', e2]
        rfl
      · have hV0 : V = [] := List.length_eq_zero_iff.1 (by simp only [List.length_nil] at hl; omega)
        subst hV0
        rw [List.append_nil] at *
        refine ⟨done ++ U, loopF_inr ?_, by rw [List.length_append]; simp only [List.length_nil] at hl; omega, BS_app hBd hd hU (by omega), hq, hp⟩
        rw [hst]
        simp only [le_ff (show ¬ ((done.length + 2 * s : Nat) : Int) ≤ (n : Int) by omega), cond_false, e1, lt_ff (show ¬ ((done.length + s : Nat) : Int) < (n : Int) by omega), e2]
        rfl
end Go.Sh.D
set_option linter.unusedVariables false
set_option linter.unusedSimpArgs false
namespace Go.Sh.D
open Go
theorem merge_all (c : Int) (n : Nat) (hn : n < 576460752303423488) (xs : List Int) : ∀ (m s : Nat) (l : List Int), n - s ≤ m → 0 < s → s < 1152921504606846976 → l.length = n → BS (leP c) s l → l.Pairwise (Qp (leP c) (ltP c)) → l.Perm xs →
    loopF (fun (s2 : Int × List Int) =>
                    N.cond (N.lt s2.1 (n : Int))
                      (
                        loopF (fun (s3 : Int × Int × List Int) =>
                            N.cond (N.le s3.2.1 (n : Int))
                              (
                                N.bind (slices_symMergeCmpFunc_int_impl_OrderFor_1 s3.2.2 s3.1 (N.add .i64 s3.1 s2.1) s3.2.1 c) fun r3 =>
                                  some (.inl (s3.2.1, N.add .i64 s3.2.1 (N.mul .i64 2 s2.1), r3)))
                              (
                                Option.map Sum.inr
                                  (
                                    N.cond (N.lt (N.add .i64 s3.1 s2.1) (n : Int))
                                      (
                                        N.bind (slices_symMergeCmpFunc_int_impl_OrderFor_1 s3.2.2 s3.1 (N.add .i64 s3.1 s2.1) (n : Int) c) fun r4 =>
                                          some (.inl (N.mul .i64 s2.1 2, r4)))
                                      (some (.inl (N.mul .i64 s2.1 2, s3.2.2))))))
                          (0, N.mul .i64 2 s2.1, s2.2))
                      (some (.inr s2.2))) ((s : Int), l) = some (xs.mergeSort (leP c)) := by
  intro m
  induction m with
  | zero =>
    intro s l hm hs hsb hl hB hq hp
    refine loopF_inr ?_
    simp only [lt_ff (show ¬ (s : Int) < (n : Int) by omega), cond_false]
    rw [(rk_ord c).srt hp (BS_all hB (by omega))]
  | succ m ih =>
    intro s l hm hs hsb hl hB hq hp
    by_cases hlt : s < n
    · have e3 : N.mul .i64 2 (s : Int) = ((([] : List Int).length + 2 * s : Nat) : Int) := by rw [mul_id (by omega) (by omega)]; simp
      obtain ⟨l', r1, r2, r3, r4, r5⟩ := merge_round c n s hn hs hlt (β := List Int) xs l.length 0 [] l (Nat.le_refl _) (by simpa using hl) (by simp) BS_nil hB (by simpa using hq) (by simpa using hp) _ rfl
      have hstep := r1
      rw [← e3] at hstep
      rw [loopF_inl (s' := (((2 * s : Nat) : Int), l'))]
      · exact ih (2 * s) l' (by omega) (by omega) (by omega) r2 r3 r4 r5
      · simp only [lt_tt (show (s : Int) < (n : Int) by omega), cond_true]
        exact hstep
    · refine loopF_inr ?_
      simp only [lt_ff (show ¬ (s : Int) < (n : Int) by omega), cond_false]
      rw [(rk_ord c).srt hp (BS_all hB (by omega))]

theorem stable_is (c : Int) (xs : List Int) (hb : xs.length < 576460752303423488) (hq : xs.Pairwise (Qp (leP c) (ltP c))) : slices_stableCmpFunc_int_impl_OrderFor_1 xs (xs.length : Int) c = some (xs.mergeSort (leP c)) := by
  unfold slices_stableCmpFunc_int_impl_OrderFor_1
  have key := loop_meas (step := (fun (s1 : Int × Int × List Int) =>
      N.cond (N.le s1.2.1 (xs.length : Int))
        (
          N.bind (slices_insertionSortCmpFunc_int_impl_OrderFor_1 s1.2.2 s1.1 s1.2.1 c) fun r1 =>
            some (.inl (s1.2.1, N.add .i64 s1.2.1 20, r1)))
        (
          Option.map Sum.inr
            (
              N.bind (slices_insertionSortCmpFunc_int_impl_OrderFor_1 s1.2.2 s1.1 (xs.length : Int) c) fun r2 =>
                loopF (fun (s2 : Int × List Int) =>
                    N.cond (N.lt s2.1 (xs.length : Int))
                      (
                        loopF (fun (s3 : Int × Int × List Int) =>
                            N.cond (N.le s3.2.1 (xs.length : Int))
                              (
                                N.bind (slices_symMergeCmpFunc_int_impl_OrderFor_1 s3.2.2 s3.1 (N.add .i64 s3.1 s2.1) s3.2.1 c) fun r3 =>
                                  some (.inl (s3.2.1, N.add .i64 s3.2.1 (N.mul .i64 2 s2.1), r3)))
                              (
                                Option.map Sum.inr
                                  (
                                    N.cond (N.lt (N.add .i64 s3.1 s2.1) (xs.length : Int))
                                      (
                                        N.bind (slices_symMergeCmpFunc_int_impl_OrderFor_1 s3.2.2 s3.1 (N.add .i64 s3.1 s2.1) (xs.length : Int) c) fun r4 =>
                                          some (.inl (N.mul .i64 s2.1 2, r4)))
                                      (some (.inl (N.mul .i64 s2.1 2, s3.2.2))))))
                          (0, N.mul .i64 2 s2.1, s2.2))
                      (some (.inr s2.2)))
                  (20, r2)))))
    (fun s => ∃ (k : Nat) (done todo : List Int), s = ((done.length : Int), ((done.length + 20 : Nat) : Int), done ++ todo) ∧ done.length = k * 20 ∧ BS (leP c) 20 done ∧ (done ++ todo).Pairwise (Qp (leP c) (ltP c)) ∧ (done ++ todo).Perm xs)
    (fun s => xs.length + 40 - s.2.1.toNat) (fun r => r = xs.mergeSort (leP c)) (fun s hs => ?_) (0, 20, xs) ⟨0, [], xs, rfl, rfl, BS_nil, hq, List.Perm.refl _⟩
  · obtain ⟨r, h1, rfl⟩ := key
    exact h1
  · obtain ⟨k, done, todo, rfl, hd, hB, hq, hp⟩ := hs
    have hl : done.length + todo.length = xs.length := by rw [← hp.length_eq, List.length_append]
    by_cases hfull : done.length + 20 ≤ xs.length
    · left
      have ht : todo.take 20 ++ todo.drop 20 = todo := List.take_append_drop _ _
      have l1 : (todo.take 20).length = 20 := by simp; omega
      generalize todo.take 20 = U at *
      generalize todo.drop 20 = T at *
      subst ht
      have hqU : U.Pairwise (Qp (leP c) (ltP c)) := (Qp_parts (V := []) (S := T) (by simpa using hq)).1
      have := insertion_is c done U T hqU (by omega) (a := (done.length : Int)) (b := ((done.length + 20 : Nat) : Int)) rfl (by omega)
      have e4 : N.add .i64 ((done.length + 20 : Nat) : Int) 20 = ((done.length + 20 + 20 : Nat) : Int) := by rw [add_id (by omega) (by omega)]; omega
      have hsl : (U.mergeSort (leP c)).length = 20 := by rw [List.length_mergeSort]; exact l1
      refine ⟨(((done.length + 20 : Nat) : Int), ((done.length + 20 + 20 : Nat) : Int), done ++ (U.mergeSort (leP c) ++ T)), by simp only [le_tt (show ((done.length + 20 : Nat) : Int) ≤ (xs.length : Int) by omega), cond_true, this, bind_some', e4], ⟨k + 1, done ++ U.mergeSort (leP c), T, ?_, ?_, ?_, ?_, ?_⟩, ?_⟩
      · rw [List.length_append, hsl, List.append_assoc]
      · rw [List.length_append, hsl, hd]; omega
      · exact BS_app hB hd ((rk_ord c).asc _) (by omega)
      · exact Ordr.rep (by simpa using hq) (List.mergeSort_perm _ _) ((rk_ord c).asc _)
      · refine List.Perm.trans ?_ hp
        rw [List.append_assoc]
        exact List.Perm.append_left _ ((List.mergeSort_perm _ _).append_right _)
      · simp only [Int.toNat_natCast]
        omega
    · right
      have hqU : todo.Pairwise (Qp (leP c) (ltP c)) := (List.pairwise_append.1 hq).2.1
      have := insertion_is c done todo [] hqU (by omega) (a := (done.length : Int)) (b := (xs.length : Int)) rfl (by omega)
      rw [List.append_nil, List.append_nil] at this
      have hsl : (todo.mergeSort (leP c)).length = todo.length := List.length_mergeSort _
      have h2 := merge_all c xs.length hb xs (xs.length - 20) 20 (done ++ todo.mergeSort (leP c)) (Nat.le_refl _) (by omega) (by omega) (by rw [List.length_append, hsl]; exact hl) (BS_app hB hd ((rk_ord c).asc _) (by omega))
        (by have := Ordr.rep (le := leP c) (lt := ltP c) (P := done) (U := todo) (U' := todo.mergeSort (leP c)) (S := []) (by simpa using hq) (List.mergeSort_perm _ _) ((rk_ord c).asc _); simpa using this)
        ((List.Perm.append_left _ (List.mergeSort_perm _ _)).trans hp)
      refine ⟨_, ?_, rfl⟩
      simp only [le_ff (show ¬ ((done.length + 20 : Nat) : Int) ≤ (xs.length : Int) by omega), cond_false, this, bind_some']
      rw [show ((20 : Nat) : Int) = (20 : Int) from rfl] at h2
      rw [h2]; rfl
end Go.Sh.D
set_option linter.unusedVariables false
set_option linter.unusedSimpArgs false
namespace Go.Sh.D
open Go Data
/-! ## The order of libraries for a digest -/
def orderP (l : List Int) (d : Int) : List Int := (N.uniq l).mergeSort (leP d)

theorem compactUpTo_mem (zs : List Int) (x : Int) : ∀ m, m ≤ zs.length → (x ∈ Lib.compactUpTo zs.toArray m ↔ ∃ j, j < m ∧ zs[j]? = some x)
  | 0, _ => by simp [Lib.compactUpTo]
  | m + 1, hm => by
    have e : ∀ k, k < zs.length → zs.toArray[k]! = zs[k]! := fun k hk => by simp
    have g : ∀ k (hk : k < zs.length), zs[k]! = zs[k] := fun k hk => getElem!_pos zs k hk
    rw [Lib.compactUpTo_succ, List.mem_append, compactUpTo_mem zs x m (by omega)]
    constructor
    · rintro (⟨j, hj, h⟩ | h)
      · exact ⟨j, by omega, h⟩
      · split at h
        · simp only [List.mem_singleton] at h
          exact ⟨m, by omega, by rw [h, e m (by omega), g m (by omega)]; exact List.getElem?_eq_getElem _⟩
        · cases h
    · rintro ⟨j, hj, h⟩
      by_cases hjm : j < m
      · exact .inl ⟨j, hjm, h⟩
      · obtain rfl : j = m := by omega
        have hx : zs[j]'(by omega) = x := by
          have := List.getElem?_eq_getElem (l := zs) (i := j) (by omega)
          rw [this] at h; simpa using h
        by_cases hk : Lib.keeps zs.toArray j = true
        · right
          rw [if_pos hk, e j (by omega), g j (by omega), hx]; simp
        · left
          unfold Lib.keeps at hk
          simp only [decide_eq_true_eq, not_or, Classical.not_not] at hk
          refine ⟨j - 1, by omega, ?_⟩
          have h2 := hk.2
          rw [e j (by omega), e (j - 1) (by omega), g j (by omega), g (j - 1) (by omega), hx] at h2
          rw [h2]; exact List.getElem?_eq_getElem _
theorem compact_mem (zs : List Int) (x : Int) : x ∈ Lib.compact zs ↔ x ∈ zs := by
  unfold Lib.compact
  rw [compactUpTo_mem zs x _ (Nat.le_refl _), List.mem_iff_getElem?]
  constructor
  · rintro ⟨j, _, h⟩; exact ⟨j, h⟩
  · rintro ⟨j, h⟩; exact ⟨j, (List.getElem?_eq_some_iff.1 h).1, h⟩

theorem uniq_perm (l : List Int) : ∀ x, x ∈ N.uniq l ↔ x ∈ l := fun x => by
  unfold N.uniq
  rw [compact_mem, (List.mergeSort_perm _ _).mem_iff]

theorem asc_Qp (d : Int) {l : List Int} (h : l.Pairwise fun x y => x < y) : l.Pairwise (Qp (leP d) (ltP d)) := h.imp fun {x y} hxy => by
  simp only [Qp, leP, ltP, decide_eq_true_eq]
  omega

theorem uniq_len (l : List Int) : (N.uniq l).length ≤ l.length := by
  unfold N.uniq
  exact Nat.le_trans (Lib.compact_length_le _) (by rw [List.length_mergeSort]; exact Nat.le_refl _)

theorem orderP_len (l : List Int) (d : Int) : (orderP l d).length ≤ l.length := by
  unfold orderP
  rw [List.length_mergeSort]
  exact uniq_len l

theorem impl_OrderFor_is {l : List Int} (h : l.length ≤ 1048576) (d : Int) : impl_OrderFor l d = some (orderP l d) := by
  unfold impl_OrderFor impl_sorted slices_SortStableFunc_int_impl_OrderFor_1
  rw [nite_pos (by rw [len_d]; omega), bind_some', len_d, stable_is d _ (by have := uniq_len l; omega) (asc_Qp d (uniq_asc l)), bind_some', bind_some']
  rfl

theorem orderP_spec (l : List Int) (d : Int) {r : List Int} (hs : r.Pairwise fun a b => leP d a b = true) (hn : r.Nodup) (hm : ∀ x, x ∈ r ↔ x ∈ l) : r = orderP l d := by
  refine (rk_ord d).srt ?_ hs
  have hu : (N.uniq l).Nodup := (uniq_asc l).imp fun h => by omega
  exact (List.perm_ext_iff_of_nodup hn hu).2 fun x => (hm x).trans (uniq_perm l x).symm

theorem orderP_mem (l : List Int) (d : Int) (x : Int) : x ∈ orderP l d ↔ x ∈ l := by
  unfold orderP
  rw [(List.mergeSort_perm _ _).mem_iff, uniq_perm]
theorem orderP_nodup (l : List Int) (d : Int) : (orderP l d).Nodup := by
  unfold orderP
  rw [(List.mergeSort_perm _ _).nodup_iff]
  exact (uniq_asc l).imp fun h => by omega

theorem spec_l28Before_is (d a b : Int) (hab : a ≠ b) : spec_l28Before d a b = some (leP d a b) := by
  unfold spec_l28Before
  simp only [spec_RankOf_is, bind_some', gt_d, eq_d, lt_d, cond_dec]
  by_cases h1 : rkP d b < rkP d a
  · rw [if_pos h1]; simp [leP, h1]
  · rw [if_neg h1]
    by_cases h2 : rkP d a = rkP d b
    · rw [if_pos h2]
      have : (a < b) ↔ a ≤ b := by omega
      simp [leP, h1, h2, this]
    · rw [if_neg h2]; simp [leP, h1, h2]

theorem cut_lo (l : List Int) (k : Nat) : N.cut l 0 (k : Int) = l.take k := by simp [N.cut]
theorem cut_hi (l : List Int) (k : Nat) : N.cut l (k : Int) ((l.length : Nat) : Int) = l.drop k := by simp [N.cut]

theorem setIn_perm (out : List Int) (k : Nat) (x : Int) : (out.take k ++ x :: out.drop k).Perm (x :: out) := by
  refine List.perm_middle.trans ?_
  rw [List.take_append_drop]

/-- where the reference sets a library in -/
theorem set_in (d x : Int) (out : List Int) (hl : out.length ≤ 1048576) (hx : x ∉ out) {T : Type} (j : Int) {step : Int → Option (Int ⊕ ((List Int × Int) ⊕ T))}
    (hgo : ∀ (k : Nat) (hk : k < out.length), step (((k + 1 : Nat)) : Int) = if leP d x out[k] = true then some (.inl (k : Int)) else some (.inr (.inl (out.take (k + 1) ++ x :: out.drop (k + 1), j))))
    (hend : step 0 = some (.inr (.inl (x :: out, j)))) (hs : out.Pairwise fun a b => leP d a b = true) :
    ∃ r, loopF step ((out.length : Nat) : Int) = some (.inl (r, j)) ∧ r.Perm (x :: out) ∧ r.Pairwise fun a b => leP d a b = true := by
  have key := loop_meas (step := step) (fun s => ∃ k : Nat, s = (k : Int) ∧ k ≤ out.length ∧ ∀ y ∈ out.drop k, leP d x y = true) (fun s => s.toNat)
    (fun r => ∃ q, r = .inl (q, j) ∧ q.Perm (x :: out) ∧ q.Pairwise fun a b => leP d a b = true) (fun s hI => ?_) ((out.length : Nat) : Int) ⟨out.length, rfl, Nat.le_refl _, fun y hy => by simp at hy⟩
  · obtain ⟨r, h1, q, rfl, h2, h3⟩ := key
    exact ⟨q, h1, h2, h3⟩
  · obtain ⟨k, rfl, hk, hd⟩ := hI
    cases k with
    | zero =>
      right
      refine ⟨_, hend, x :: out, rfl, List.Perm.refl _, List.pairwise_cons.2 ⟨?_, hs⟩⟩
      simpa using hd
    | succ k =>
      have hk' : k < out.length := by omega
      have hg := hgo k hk'
      have hdk : out.drop k = out[k] :: out.drop (k + 1) := List.drop_eq_getElem_cons hk'
      by_cases hle : leP d x out[k] = true
      · left
        rw [if_pos hle] at hg
        refine ⟨_, hg, ⟨k, rfl, by omega, fun y hy => ?_⟩, by simp⟩
        rw [hdk] at hy
        rcases List.mem_cons.1 hy with rfl | hy
        · exact hle
        · exact hd y hy
      · right
        rw [if_neg hle] at hg
        refine ⟨_, hg, _, rfl, setIn_perm out (k + 1) x, ?_⟩
        have hyx : leP d out[k] x = true := (rk_ord d).rev (by simpa using hle)
        have hp := hs
        rw [← List.take_append_drop (k + 1) out, List.pairwise_append] at hp
        rw [List.pairwise_append]
        have hlow : ∀ y ∈ out.take (k + 1), leP d y x = true := fun y hy => by
          rw [List.take_succ_eq_append_getElem hk', List.mem_append] at hy
          rcases hy with hy | hy
          · have h2 := hs
            rw [← List.take_append_drop k out, List.pairwise_append] at h2
            exact (rk_ord d).trans _ _ _ (h2.2.2 y hy out[k] (by rw [hdk]; exact List.mem_cons_self)) hyx
          · obtain rfl : y = out[k] := by simpa using hy
            exact hyx
        refine ⟨hp.1, List.pairwise_cons.2 ⟨hd, hp.2.1⟩, fun p hp' q hq => ?_⟩
        rcases List.mem_cons.1 hq with rfl | hq
        · exact hlow p hp'
        · exact hp.2.2 p hp' q hq

theorem set_in_to (d x : Int) (out : List Int) (hl : out.length ≤ 1048576) (hx : x ∉ out) {T : Type} (j : Int) {step : Int → Option (Int ⊕ ((List Int × Int) ⊕ T))} {G : List Int × Int → Prop}
    (hs : out.Pairwise fun a b => leP d a b = true) (hG : ∀ r : List Int, r.Perm (x :: out) → (r.Pairwise fun a b => leP d a b = true) → G (r, j))
    (hgo : ∀ (k : Nat) (hk : k < out.length), step (((k + 1 : Nat)) : Int) = if leP d x out[k] = true then some (.inl (k : Int)) else some (.inr (.inl (out.take (k + 1) ++ x :: out.drop (k + 1), j))))
    (hend : step 0 = some (.inr (.inl (x :: out, j)))) : ∃ s', loopF step ((out.length : Nat) : Int) = some (.inl s') ∧ G s' := by
  obtain ⟨r, h1, h2, h3⟩ := set_in d x out hl hx j hgo hend hs
  exact ⟨_, h1, hG r h2 h3⟩

theorem spec_OrderFor_is {l : List Int} (h : l.length ≤ 1048576) (d : Int) : spec_OrderFor l d = some (orderP l d) := by
  unfold spec_OrderFor
  refine (fun (key : ∃ r, loopF _ _ = some r ∧ r = orderP l d) => key.elim fun r h => h.2 ▸ h.1) (loop_meas (fun s => ∃ (out : List Int) (i : Nat), s = (out, (i : Int)) ∧ i ≤ l.length ∧ out.length ≤ i ∧ (out.Pairwise fun a b => leP d a b = true) ∧ out.Nodup ∧ ∀ x, x ∈ out ↔ x ∈ l.take i) (fun s => l.length - s.2.toNat)
    (fun r => r = orderP l d) (fun s hI => ?_) ([], 0) ⟨[], 0, rfl, by omega, by simp, List.Pairwise.nil, List.nodup_nil, fun x => by simp⟩)
  · obtain ⟨out, i, rfl, hi, hl, hs, hn, hm⟩ := hI
    by_cases hlt : i < l.length
    · left
      have ht : l.take (i + 1) = l.take i ++ [l[i]] := List.take_succ_eq_append_getElem hlt
      have i0 : (0 : Int) ≤ (i : Int) := by omega
      have i1 : (i : Int) < (l.length : Int) := by omega
      have hnext : N.add .i64 (i : Int) 1 = ((i + 1 : Nat) : Int) := next_id hlt (by omega)
      simp only [lt_tt i1, cond_true, len_d, rd_at l i hlt, spec_l28Has_is (l := out) (by omega), bind_some', hnext]
      rw [nite_pos i0, nite_pos i1]
      by_cases hx : l[i] ∈ out
      · refine ⟨(out, ((i + 1 : Nat) : Int)), by simp [hx], ⟨out, i + 1, rfl, by omega, by omega, hs, hn, fun x => ?_⟩, by simp only [Int.toNat_natCast]; omega⟩
        rw [ht, List.mem_append, hm x]
        constructor
        · exact .inl
        · rintro (h | h)
          · exact h
          · obtain rfl : x = l[i] := by simpa using h
            exact (hm _).1 hx
      · rw [decide_eq_false hx, cond_false]
        refine set_in_to d l[i] out (by omega) hx (T := List Int) ((i + 1 : Nat) : Int) hs (fun r r2 r3 => ⟨⟨r, i + 1, rfl, by omega, by rw [r2.length_eq]; simp; omega, r3, (r2.nodup_iff).2 (List.nodup_cons.2 ⟨hx, hn⟩), fun x => ?_⟩, by simp only [Int.toNat_natCast]; omega⟩) (fun k hk => ?_) ?_
        · rw [r2.mem_iff, ht, List.mem_append, List.mem_cons, hm x, List.mem_singleton]
          exact Or.comm
        · have e1 : N.sub .i64 ((k + 1 : Nat) : Int) 1 = (k : Int) := by rw [sub_id (by omega) (by omega)]; omega
          have hne : l[i] ≠ out[k] := fun e => hx (by rw [e]; exact List.getElem_mem _)
          simp only [gt_tt (show (0 : Int) < ((k + 1 : Nat) : Int) by omega), cond_true, e1, len_d out, rd_at out k hk, spec_l28Before_is d _ _ hne, bind_some', cut_lo, cut_hi, N.app, List.nil_append]
          rw [nite_pos (by omega), nite_pos (by omega)]
          by_cases hle : leP d l[i] out[k] = true
          · rw [hle, cond_true, if_pos rfl]
          · rw [if_neg hle, show leP d l[i] out[k] = false by simpa using hle, cond_false]
            rw [nite_pos (by omega), nite_pos (by omega), nite_pos (by unfold N.fits; simp; omega), nite_pos (by unfold N.fits; simp; omega), nite_pos (by omega), nite_pos (by omega), nite_pos (by omega), nite_pos (by unfold N.fits; simp; omega)]
            simp
        · have ec : N.cut out 0 0 = [] := by simp [N.cut]
          have ec2 : N.cut out 0 ((out.length : Nat) : Int) = out := by simp [N.cut]
          simp only [gt_ff (show ¬ (0 : Int) < 0 by omega), cond_false, len_d out, N.app, List.nil_append, ec, ec2]
          rw [nite_pos (by omega), nite_pos (by omega), nite_pos (by unfold N.fits; simp), nite_pos (by unfold N.fits; simp), nite_pos (by omega), nite_pos (by omega), nite_pos (by omega), nite_pos (by unfold N.fits; simp; omega)]
          simp
    · right
      obtain rfl : i = l.length := by omega
      refine ⟨out, ?_, orderP_spec l d hs hn fun x => by rw [hm x, List.take_length]⟩
      simp only [len_d, lt_self, cond_false]

end Go.Sh.D
set_option linter.unusedVariables false
set_option linter.unusedSimpArgs false
namespace Go.Sh.D
open Go Data
end Go.Sh.D
set_option linter.unusedVariables false
set_option linter.unusedSimpArgs false
namespace Go.Sh.D
open Go Data
theorem up_unit {R : Type} (n : Nat) (r : R) {step : Int → Option (Int ⊕ R)} (hstep : ∀ k < n, step (k : Int) = some (.inl ((k + 1 : Nat) : Int))) (hend : step (n : Int) = some (.inr r)) : loopF step 0 = some r :=
  loop_upto n (fun k (_ : Unit) => (k : Int)) (fun _ => ()) r hstep hend

end Go.Sh.D
set_option linter.unusedVariables false
set_option linter.unusedSimpArgs false
namespace Go.Sh.D
open Go Data
/-! ## Libraries: marks, copies -/
def wLib (x : Library) : Int := x.2.1.length + 3
def mkLib (k : Int) (x : Library) : Library := (k, markL mkIntS 1 x.2.1 (k + 1), decide ((k + 1 + 1 * (x.2.1.length : Int)).tmod 3 = 0), decide ((k + 1 + 1 * (x.2.1.length : Int) + 1).tmod 3 = 0))
theorem wLib_pos (x : Library) : 0 ≤ wLib x := by unfold wLib; omega
theorem wLib_le {x : List Library} (h : ok x) : sumW wLib x ≤ 2000000 * 1048576 := by
  have h1 := sumW_le (we := wLib) (m := 2000000) x fun c hc => by
    have := (h.2 c hc).2.1.1
    unfold wLib; omega
  have := h.1
  omega

theorem laws_markLibraryS_is {x : List Library} {k : Int} (h0 : 0 ≤ k) (hk : k ≤ 7000000000000000000) (h : ok x) : laws_markLibraryS x k = some (k + sumW wLib x, markW mkLib wLib x k) := by
  have hs := wLib_le h
  refine mark_loopW (we := wLib) (B := 8000000000000000000) (mk := mkLib) (P := ok) wLib_pos (fun k i ys hi h0 h1 hl hp => ?_) (fun k ys => ?_) h0 (by omega) h.1 h.2
  · have i0 : (0 : Int) ≤ (i : Int) := by omega
    have i1 : (i : Int) < (ys.length : Int) := by omega
    have hdl := hp.2.1.1
    have hw : wLib ys[i] = ((ys[i]).2.1.length : Int) + 3 := rfl
    rw [hw] at h1 ⊢
    have a0 : N.add .i64 k 1 = k + 1 := add_id (by omega) (by omega)
    have m0 := laws_markIntS_len (x := (ys[i]).2.1) (k := k + 1) (by omega) (by omega) hdl
    have a1 : N.add .i64 (k + 1 + 1 * ((ys[i]).2.1.length : Int)) 1 = k + 1 + 1 * ((ys[i]).2.1.length : Int) + 1 := add_id (by omega) (by omega)
    have a2 : N.add .i64 (k + 1 + 1 * ((ys[i]).2.1.length : Int) + 1) 1 = k + 1 + 1 * ((ys[i]).2.1.length : Int) + 1 + 1 := add_id (by omega) (by omega)
    simp only [ite_if, let_eq, len_set, set_set, rd_set hi, lt_d, len_d, cond_dec, i0, i1, if_true, a0, rd_at ys i hi, m0, bind_some', next_id hi (by omega)]
    simp only [a1, a2, set_at, List.length_set, i1, if_true]
    have e : k + 1 + 1 * ((ys[i]).2.1.length : Int) + 1 + 1 = k + (((ys[i]).2.1.length : Int) + 3) := by omega
    rw [e]
    rfl
  · simp only [lt_d, len_d, cond_dec]; rw [if_neg (by omega)]

theorem laws_heldLibraryS_is {x : List Library} {k0 : Int} (h0 : 0 ≤ k0) (hk : k0 ≤ 7000000000000000000) (h : ok x) : laws_heldLibraryS (markW mkLib wLib x k0) k0 = some (k0 + sumW wLib x) := by
  have hs := wLib_le h
  have hl := h.1
  refine held_loopW (we := wLib) (B := 8000000000000000000) (mk := mkLib) (P := ok) (xs := x) wLib_pos (fun k i hi hi' hm h0 h1 hp => ?_) (fun q => ?_) h0 (by omega) h.2
  · have i0 : (0 : Int) ≤ (i : Int) := by omega
    have i1 : (i : Int) < (x.length : Int) := by omega
    have hw : wLib x[i] = ((x[i]).2.1.length : Int) + 3 := rfl
    rw [hw] at h1 ⊢
    have a0 : N.add .i64 k 1 = k + 1 := add_id (by omega) (by omega)
    have m0 := laws_heldIntS_is (x := (x[i]).2.1) (k := k + 1) (by omega) (by omega) hp.2.1
    have hrd : ∀ d, N.rd (markW mkLib wLib x k0) (i : Int) d = mkLib k x[i] := fun d => by rw [rd_at _ i hi', hm]
    have n0 : ¬ k + 1 + 1 * ((x[i]).2.1.length : Int) < 0 := by omega
    have a1 : N.add .i64 (k + 1 + 1 * ((x[i]).2.1.length : Int)) 1 = k + 1 + 1 * ((x[i]).2.1.length : Int) + 1 := add_id (by omega) (by omega)
    have a2 : N.add .i64 (k + 1 + 1 * ((x[i]).2.1.length : Int) + 1) 1 = k + 1 + 1 * ((x[i]).2.1.length : Int) + 1 + 1 := add_id (by omega) (by omega)
    have e : k + 1 + 1 * ((x[i]).2.1.length : Int) + 1 + 1 = k + (((x[i]).2.1.length : Int) + 3) := by omega
    simp only [ite_if, lt_d, len_d, markW_len, cond_dec, i0, i1, if_true, hrd, mkLib, ne_d, neB_d, not_true, if_false, a0, m0, bind_some', n0, a1, a2, N.rem, eq_d, next_id hi (by omega), e]
  · simp only [lt_d, len_d, markW_len, cond_dec]; rw [if_neg (by omega)]

theorem copy_step (l : List Library) (k : Nat) (hk : k < l.length) : N.app (l.take k) [((l[k]).1, (l[k]).2.1, (l[k]).2.2.1, (l[k]).2.2.2)] = l.take (k + 1) := (List.take_succ_eq_append_getElem hk).symm

theorem impl_copyLibraries_is {l : List Library} (h : ok l) : impl_copyLibraries l = some l := by
  have hl := h.1
  unfold impl_copyLibraries
  refine (loop_upto l.length (fun (k : Nat) (o : List Library) => (o, (k : Int))) (fun k => l.take k) l (fun k hk => ?_) ?_ :)
  · have hd := (h.2 l[k] (List.getElem_mem hk)).2.1.1
    simp only [lt_tt (show (k : Int) < N.len l by rw [len_d]; omega), cond_true, rd_at l k hk, next_id hk (by omega), slices_Clone_int_is (l := (l[k]).2.1) (by omega), bind_some', copy_step l k hk]
    rw [nite_pos (by omega), nite_pos (by rw [len_d]; omega), nite_pos (fitsN (by simp; omega) (by omega))]
  · simp only [len_d, lt_self, cond_false, List.take_length]

theorem spec_l29Copy_is {l : List Library} (h : ok l) : spec_l29Copy l = some l := by
  have hl := h.1
  unfold spec_l29Copy
  refine (loop_upto l.length (fun (k : Nat) (o : List Library) => (o, (k : Int))) (fun k => l.take k) l (fun k hk => ?_) ?_ :)
  · have hd := (h.2 l[k] (List.getElem_mem hk)).2.1.1
    have ha : N.app [] (l[k]).2.1 = (l[k]).2.1 := rfl
    simp only [lt_tt (show (k : Int) < N.len l by rw [len_d]; omega), cond_true, rd_at l k hk, next_id hk (by omega), ha, copy_step l k hk]
    rw [nite_pos (by omega), nite_pos (by rw [len_d]; omega), nite_pos (by omega), nite_pos (by rw [len_d]; omega), nite_pos (fits8 (by simp; omega)), nite_pos (by omega), nite_pos (by rw [len_d]; omega), nite_pos (by omega), nite_pos (by rw [len_d]; omega), nite_pos (fitsN (by simp; omega) (by omega))]
  · simp only [len_d, lt_self, cond_false, List.take_length]

/-! ## A digest set in -/
theorem takeWhile_len {xs : List Int} {d : Int} {k : Nat} (hk : k ≤ xs.length) (h1 : ∀ j, j < k → xs.getD j 0 < d) (h2 : k = xs.length ∨ ¬ xs.getD k 0 < d) : (xs.takeWhile fun x => decide (x < d)).length = k := by
  induction xs generalizing k with
  | nil => simp at hk; subst hk; rfl
  | cons x xs ih =>
    cases k with
    | zero =>
      rcases h2 with h2 | h2
      · simp at h2
      · simp only [List.getD_cons_zero] at h2
        rw [List.takeWhile_cons_of_neg (by simpa using h2)]; rfl
    | succ k =>
      have h0 := h1 0 (by omega)
      simp only [List.getD_cons_zero] at h0
      rw [List.takeWhile_cons_of_pos (by simpa using h0), List.length_cons, ih (k := k) (by simpa using hk) (fun j hj => by have := h1 (j + 1) (by omega); simpa using this) (by
        rcases h2 with h2 | h2
        · left; simpa using h2
        · right; simpa using h2)]

theorem withD_at {xs : List Int} {d : Int} {k : Nat} (hk : k ≤ xs.length) (h1 : ∀ j, j < k → xs.getD j 0 < d) (h2 : k = xs.length ∨ ¬ xs.getD k 0 < d) : N.withD xs d = if xs[k]? = some d then xs else xs.take k ++ d :: xs.drop k := by
  unfold N.withD
  rw [takeWhile_len hk h1 h2]

theorem withD_len (xs : List Int) (d : Int) : (N.withD xs d).length ≤ xs.length + 1 := by
  unfold N.withD
  split
  · omega
  · simp; omega

theorem withD_mem (xs : List Int) (d : Int) (x : Int) : x ∈ N.withD xs d ↔ x = d ∨ x ∈ xs := by
  unfold N.withD
  split
  · rename_i h
    have := List.mem_of_getElem? h
    constructor
    · exact .inr
    · rintro (rfl | h)
      · exact this
      · exact h
  · generalize (xs.takeWhile fun x => decide (x < d)).length = k
    have e : x ∈ xs ↔ x ∈ xs.take k ∨ x ∈ xs.drop k := by
      rw [← List.mem_append, List.take_append_drop]
    rw [List.mem_append, List.mem_cons, e]
    constructor
    · rintro (h | h | h)
      · exact .inr (.inl h)
      · exact .inl h
      · exact .inr (.inr h)
    · rintro (h | h | h)
      · exact .inr (.inl h)
      · exact .inl h
      · exact .inr (.inr h)

theorem impl_withDigest_is {xs : List Int} (h : xs.length ≤ 1048576) (d : Int) : impl_withDigest xs d = some (N.withD xs d) := by
  unfold impl_withDigest
  rw [nite_pos (by rw [len_d]; omega)]

theorem spec_l9Put_is {xs : List Int} (h : xs.length ≤ 1048576) (d : Int) : spec_l9Put xs d = some (N.withD xs d) := by
  unfold spec_l9Put
  refine (fun (key : ∃ r, loopF _ _ = some r ∧ r = N.withD xs d) => key.elim fun r h => h.2 ▸ h.1) (loop_meas (fun s => ∃ k : Nat, s = (k : Int) ∧ k ≤ xs.length ∧ ∀ j, j < k → xs.getD j 0 < d) (fun s => xs.length - s.toNat)
    (fun r => r = N.withD xs d) (fun s hI => ?_) 0 ⟨0, rfl, by omega, fun j hj => absurd hj (Nat.not_lt_zero _)⟩)
  obtain ⟨k, rfl, hk, hlow⟩ := hI
  by_cases hlt : k < xs.length
  · have i1 : (k : Int) < (xs.length : Int) := by omega
    have hg : xs.getD k 0 = xs[k] := by simp [hlt]
    by_cases hd : xs[k] < d
    · left
      refine ⟨((k + 1 : Nat) : Int), ?_, ⟨k + 1, rfl, by omega, fun j hj => ?_⟩, by simp only [Int.toNat_natCast]; omega⟩
      · simp only [len_d, lt_tt i1, cond_true, rd_at xs k hlt, lt_tt hd, next_id hlt (by omega)]
        rw [nite_pos (by omega), nite_pos (by omega)]
      · by_cases hjk : j < k
        · exact hlow j hjk
        · obtain rfl : j = k := by omega
          rw [hg]; exact hd
    · right
      have hw := withD_at hk hlow (.inr (by rw [hg]; exact hd))
      rw [List.getElem?_eq_getElem hlt] at hw
      have lc1 : N.cut xs 0 (k : Int) = xs.take k := cut_lo xs k
      have lc2 : N.cut xs (k : Int) (xs.length : Int) = xs.drop k := cut_hi xs k
      by_cases he : xs[k] = d
      · rw [if_pos (by rw [he])] at hw
        refine ⟨xs, ?_, hw.symm⟩
        simp only [len_d, lt_tt i1, cond_true, rd_at xs k hlt, lt_ff hd, cond_false, eq_tt he]
        rw [nite_pos (by omega), nite_pos (by omega), nite_pos (by omega), nite_pos (by omega), nite_pos (fits8 (by simp; omega))]
        rfl
      · rw [if_neg (by simpa using he)] at hw
        refine ⟨xs.take k ++ d :: xs.drop k, ?_, hw.symm⟩
        simp only [len_d, lt_tt i1, cond_true, rd_at xs k hlt, lt_ff hd, cond_false, eq_ff he, lc1, lc2, N.app, List.nil_append]
        rw [nite_pos (by omega), nite_pos (by omega), nite_pos (by omega), nite_pos (by omega), nite_pos (by omega), nite_pos (by omega), nite_pos (fits8 (by simp; omega)), nite_pos (fits8 (by simp; omega)), nite_pos (by omega), nite_pos (by omega), nite_pos (by omega), nite_pos (fits8 (by simp; omega))]
        simp
  · right
    obtain rfl : k = xs.length := by omega
    have hw := withD_at hk hlow (.inl rfl)
    rw [if_neg (by simp)] at hw
    have lc1 : N.cut xs 0 (xs.length : Int) = xs := by simp [N.cut]
    have lc2 : N.cut xs (xs.length : Int) (xs.length : Int) = [] := by simp [N.cut]
    refine ⟨xs ++ [d], ?_, by rw [hw]; simp⟩
    simp only [len_d, lt_self, cond_false, lc1, lc2, N.app, List.nil_append]
    rw [nite_pos (by omega), nite_pos (by omega), nite_pos (fits8 (by simp; omega)), nite_pos (fits8 (by simp; omega)), nite_pos (by omega), nite_pos (by omega), nite_pos (by omega), nite_pos (fits8 (by simp; omega))]
    simp
end Go.Sh.D
set_option linter.unusedVariables false
set_option linter.unusedSimpArgs false
namespace Go.Sh.D
open Go Data
/-! ## Copies repaired -/
def needP (x : Int) (a : Library) : Bool := a.2.2.1 && !decide (x ∈ a.2.1)
def idsP (l : List Library) (x : Int) : List Int := (l.filter (needP x)).map fun a => a.1
def putP (x : Int) (a : Library) : Library := (a.1, N.withD a.2.1 x, a.2.2.1, a.2.2.2)
def updP (x : Int) (S : List Int) (l : List Library) : List Library := l.map fun a => if a.1 ∈ S then putP x a else a
def hP (x : Int) (a : Library) : Bool := a.2.2.1 && decide (x ∈ a.2.1)
def idn (l : List Library) : List Int := l.map fun a => a.1
def stepsP (l : List Library) (x k : Int) : Nat := min (orderP (idsP l x) x).length (k - (holdersP l x).length).toNat
def repairP (l : List Library) (x k : Int) : List Library × Bool :=
  if libsP l = true ∧ countAt (fun _ a => goodP x a) l 0 ≠ 0 then (updP x ((orderP (idsP l x) x).take (stepsP l x k)) l, true) else (l, false)

theorem holders_count (l : List Library) (x : Int) : (holdersP l x).length = l.countP (hP x) := by
  unfold holdersP
  induction l with
  | nil => rfl
  | cons a l ih =>
    rw [List.flatMap_cons, List.length_append, ih, List.countP_cons]
    unfold hP
    by_cases h1 : a.2.2.1 = true <;> by_cases h2 : x ∈ a.2.1 <;> simp [h1, h2, Nat.add_comm]

theorem libs_asc {l : List Library} (h : libsP l = true) : (idn l).Pairwise fun a b => a < b := by
  unfold libsP at h
  rw [Bool.and_eq_true, List.all_eq_true] at h
  have hs : ∀ i, i + 1 < l.length → idAt l i < idAt l (i + 1) := fun i hi => by
    have := h.2 (i + 1) (List.mem_range.2 hi)
    unfold okAt at this
    simp only [Bool.and_eq_true, Bool.or_eq_true, decide_eq_true_eq] at this
    have := this.1.2.resolve_left (by omega)
    simpa using this
  have hm : ∀ (d i : Nat), i + d + 1 < l.length → idAt l i < idAt l (i + d + 1) := by
    intro d
    induction d with
    | zero => intro i hi; exact hs i hi
    | succ d ih => intro i hi; exact Int.lt_trans (ih i (by omega)) (hs (i + d + 1) hi)
  rw [List.pairwise_iff_getElem]
  intro i j hi hj hij
  have hi' : i < l.length := by simpa [idn] using hi
  have hj' : j < l.length := by simpa [idn] using hj
  have := hm (j - i - 1) i (by omega)
  rw [show i + (j - i - 1) + 1 = j by omega] at this
  unfold idAt at this
  rw [rd_at l i hi', rd_at l j hj'] at this
  simpa [idn] using this

theorem libs_nodup {l : List Library} (h : libsP l = true) : (idn l).Nodup := (libs_asc h).imp fun h => by omega

theorem idsP_sub (l : List Library) (x : Int) : (idsP l x).Sublist (idn l) := (List.filter_sublist).map _

theorem idsP_succ (l : List Library) (x : Int) (k : Nat) (hk : k < l.length) : idsP (l.take (k + 1)) x = idsP (l.take k) x ++ (if needP x l[k] = true then [(l[k]).1] else []) := by
  unfold idsP
  rw [List.take_succ_eq_append_getElem hk, List.filter_append, List.map_append]
  congr 1
  by_cases h : needP x l[k] = true <;> simp [h]
theorem idsP_len (l : List Library) (x : Int) (k : Nat) : (idsP (l.take k) x).length ≤ k := by
  unfold idsP
  rw [List.length_map]
  exact Nat.le_trans (List.length_filter_le _ _) (by simp; omega)

theorem countP_or {α : Type} (p q : α → Bool) : ∀ l : List α, l.countP (fun a => p a || q a) = l.countP p + l.countP (fun a => q a && !p a)
  | [] => rfl
  | a :: l => by
    rw [List.countP_cons, List.countP_cons, List.countP_cons, countP_or p q l]
    cases p a <;> cases q a <;> simp <;> omega

/-- how many hold the digest when S have been given it -/
theorem holders_upd {l : List Library} {x : Int} (hn : (idn l).Nodup) {S : List Int} (hS : S.Nodup) (hsub : ∀ i ∈ S, i ∈ idsP l x) : (holdersP (updP x S l) x).length = (holdersP l x).length + S.length := by
  rw [holders_count, holders_count]
  unfold updP
  rw [List.countP_map]
  have e1 : (hP x ∘ fun a => if a.1 ∈ S then putP x a else a) = fun a => hP x a || (a.2.2.1 && decide (a.1 ∈ S)) := by
    funext a
    unfold hP putP
    by_cases h : a.1 ∈ S
    · simp only [Function.comp, h, if_true, decide_true, Bool.and_true]
      have : x ∈ N.withD a.2.1 x := (withD_mem _ _ _).2 (.inl rfl)
      cases a.2.2.1 <;> simp [this]
    · simp [Function.comp, h]
  rw [e1, countP_or]
  congr 1
  have e2 : (fun a : Library => (a.2.2.1 && decide (a.1 ∈ S)) && !hP x a) = fun a => needP x a && decide (a.1 ∈ S) := by
    funext a
    unfold hP needP
    cases a.2.2.1 <;> cases decide (x ∈ a.2.1) <;> cases decide (a.1 ∈ S) <;> rfl
  rw [e2]
  have e3 : (l.countP fun a => needP x a && decide (a.1 ∈ S)) = ((idsP l x).filter fun i => decide (i ∈ S)).length := by
    unfold idsP
    rw [List.filter_map, List.length_map, List.filter_filter, List.countP_eq_length_filter]
    congr 2
    funext a
    simp [Function.comp, Bool.and_comm]
  rw [e3]
  have hp : ((idsP l x).filter fun i => decide (i ∈ S)).Perm S := by
    refine (List.perm_ext_iff_of_nodup ((hn.sublist (idsP_sub l x)).sublist List.filter_sublist) hS).2 fun i => ?_
    rw [List.mem_filter, decide_eq_true_eq]
    exact ⟨fun h => h.2, fun h => ⟨hsub i h, h⟩⟩
  exact hp.length_eq

theorem updP_len (x : Int) (S : List Int) (l : List Library) : (updP x S l).length = l.length := List.length_map _
theorem updP_nil (x : Int) (l : List Library) : updP x [] l = l := by simp [updP]
theorem updP_idn (x : Int) (S : List Int) (l : List Library) : idn (updP x S l) = idn l := by
  unfold idn updP
  rw [List.map_map]
  congr 1
  funext a
  simp only [Function.comp]
  split <;> rfl

theorem updP_succ (x : Int) {S : List Int} {i : Int} (hi : i ∉ S) (l : List Library) : (updP x S l).map (fun a => if a.1 = i then putP x a else a) = updP x (S ++ [i]) l := by
  unfold updP
  rw [List.map_map]
  congr 1
  funext a
  simp only [Function.comp, List.mem_append, List.mem_singleton]
  by_cases h1 : a.1 ∈ S
  · have h2 : a.1 ≠ i := fun e => hi (e ▸ h1)
    have h3 : (putP x a).1 ≠ i := h2
    simp [h1, h2, h3]
  · by_cases h2 : a.1 = i
    · simp [h2, hi]
    · simp [h1, h2]

theorem updP_ok {l : List Library} (h : ok l) (hd : ∀ a ∈ l, a.2.1.length ≤ 1048575) {x : Int} (hx : bd x) (S : List Int) : ok (updP x S l) := by
  refine ⟨by rw [updP_len]; exact h.1, fun b hb => ?_⟩
  obtain ⟨a, ha, rfl⟩ := List.mem_map.1 hb
  have hka := h.2 a ha
  split
  · refine ⟨hka.1, ⟨?_, fun y hy => ?_⟩, hka.2.2.1, hka.2.2.2⟩
    · have := withD_len a.2.1 x
      have := hd a ha
      show (N.withD a.2.1 x).length ≤ 1048576
      omega
    · rcases (withD_mem a.2.1 x y).1 hy with rfl | hy
      · exact Flat.fl _ hx
      · exact hka.2.1.2 y hy
  · exact hka

/-- the loop that gathers those that are to get a copy -/
theorem map_set {α : Type} (g : α → α) (out : List α) (j : Nat) (hj : j < out.length) : ((out.map g).take j ++ out.drop j).set j (g out[j]) = (out.map g).take (j + 1) ++ out.drop (j + 1) := by
  have h1 : ((out.map g).take j).length = j := by simp; omega
  rw [List.set_append_right _ _ (by omega), h1, Nat.sub_self, List.drop_eq_getElem_cons hj, List.set_cons_zero, List.take_succ_eq_append_getElem (by simpa using hj)]
  simp
theorem map_get {α : Type} (g : α → α) (out : List α) (j : Nat) (hj : j < out.length) (h : j < ((out.map g).take j ++ out.drop j).length) : ((out.map g).take j ++ out.drop j)[j] = out[j] := by
  have h1 : ((out.map g).take j).length = j := by simp; omega
  rw [List.getElem_append_right (by omega)]
  simp [h1]
theorem map_len {α : Type} (g : α → α) (out : List α) (j : Nat) (hj : j ≤ out.length) : ((out.map g).take j ++ out.drop j).length = out.length := by simp; omega

theorem index_is (out : List Library) (id : Int) (j : Nat) (hj : j < out.length) (hl : out.length ≤ 1048576) (he : (out[j]).1 = id) (hne : ∀ (i : Nat) (hi : i < out.length), i < j → (out[i]).1 ≠ id) :
    slices_IndexFunc_Library_impl_RepairCopies_1 out id = some (j : Int) := by
  unfold slices_IndexFunc_Library_impl_RepairCopies_1 impl_RepairCopies_1
  refine up_unit j _ (fun i hi => ?_) ?_
  · have hi' : i < out.length := by omega
    simp only [lt_tt (show (i : Int) < N.len out by rw [len_d]; omega), cond_true, rd_at out i hi', bind_some', eq_ff (hne i hi' hi), cond_false, next_id hi' (by omega)]
    rw [nite_pos (by omega), nite_pos (by rw [len_d]; omega)]
  · simp only [lt_tt (show (j : Int) < N.len out by rw [len_d]; omega), cond_true, rd_at out j hj, bind_some', eq_tt he]
    rw [nite_pos (by omega), nite_pos (by rw [len_d]; omega)]

theorem steps_lt {l : List Library} {x k : Int} {i : Nat} (hi : i < stepsP l x k) : i < (orderP (idsP l x) x).length ∧ ((holdersP l x).length : Int) + i < k := by
  unfold stepsP at hi
  omega
theorem steps_end (l : List Library) (x k : Int) : stepsP l x k = (orderP (idsP l x) x).length ∨ ¬ ((holdersP l x).length : Int) + stepsP l x k < k := by
  unfold stepsP
  omega
theorem steps_le (l : List Library) (x k : Int) : stepsP l x k ≤ (orderP (idsP l x) x).length := by unfold stepsP; omega

theorem take_order {l : List Library} {x : Int} (hn : (idn l).Nodup) (i : Nat) : ((orderP (idsP l x) x).take i).Nodup ∧ ∀ y ∈ (orderP (idsP l x) x).take i, y ∈ idsP l x :=
  ⟨(orderP_nodup _ _).sublist (List.take_sublist _ _), fun y hy => (orderP_mem _ _ _).1 ((List.take_sublist _ _).subset hy)⟩

theorem order_next (L : List Int) (hn : L.Nodup) (i : Nat) (hi : i < L.length) : L[i] ∉ L.take i := fun h => by
  have := hn
  rw [← List.take_append_drop i L, List.nodup_append] at this
  exact this.2.2 _ h L[i] (by rw [List.drop_eq_getElem_cons hi]; exact List.mem_cons_self) rfl

theorem setAt_map {out : List Library} {x : Int} (hn : (idn out).Nodup) (j : Nat) (hj : j < out.length) : out.set j (putP x out[j]) = out.map fun a => if a.1 = (out[j]).1 then putP x a else a := by
  apply List.ext_getElem
  · simp
  · intro i h1 h2
    simp only [List.getElem_set, List.getElem_map]
    have hi : i < out.length := by simpa using h1
    by_cases hij : j = i
    · subst hij; simp
    · rw [if_neg hij, if_neg]
      intro e
      have hne := List.pairwise_iff_getElem.1 (List.nodup_iff_pairwise_ne.1 hn)
      have li : i < (idn out).length := by simpa [idn] using hi
      have lj : j < (idn out).length := by simpa [idn] using hj
      rcases Nat.lt_or_gt_of_ne (Ne.symm hij) with h | h
      · exact hne i j li lj h (by simpa [idn] using e)
      · exact hne j i lj li h (by simpa [idn] using e.symm)
end Go.Sh.D
set_option linter.unusedVariables false
set_option linter.unusedSimpArgs false
namespace Go.Sh.D
open Go Data
theorem spec_RepairCopies_is {l : List Library} (h : ok l) (hd : ∀ a ∈ l, a.2.1.length ≤ 1048575) {x : Int} (hx : bd x) (k : Int) : spec_RepairCopies l x k = some (repairP l x k) := by
  unfold spec_RepairCopies repairP
  have hl := h.1
  rw [spec_l29Copy_is h, bind_some', spec_AreLibraries_is h, bind_some']
  by_cases h1 : libsP l = true
  · rw [h1, show N.not true = false from rfl, cond_false, spec_GoodCopies_is h, bind_some']
    by_cases h2 : countAt (fun _ a => goodP x a) l 0 = 0
    · rw [eq_tt h2, cond_true, if_neg (fun hh => hh.2 h2)]
    · rw [eq_ff h2, cond_false, if_pos ⟨rfl, h2⟩]
      have hn := libs_nodup h1
      have h6 : l.length ≤ 6 := by
        unfold libsP at h1
        simp only [Bool.and_eq_true, decide_eq_true_eq] at h1
        exact h1.1
      refine (loop_upto l.length (fun (i : Nat) (o : List Int) => (o, (i : Int))) (fun i => idsP (l.take i) x) _ (fun i hi => ?_) ?_ :)
      · have hdi := (h.2 l[i] (List.getElem_mem hi)).2.1.1
        have hf := idsP_len l x i
        have ln : N.len l = (l.length : Int) := len_d l
        simp only [ln, lt_tt (show (i : Int) < (l.length : Int) by omega), cond_true, rd_at l i hi, next_id hi (by omega), spec_l28Has_is (l := (l[i]).2.1) (by omega), bind_some', idsP_succ l x i hi]
        rw [nite_pos (by omega), nite_pos (by omega)]
        unfold needP
        cases h3 : (l[i]).2.2.1 with
        | false => simp
        | true =>
          rw [cond_true, nite_pos (by omega), nite_pos (by omega)]
          by_cases h4 : x ∈ (l[i]).2.1
          · simp [h4, N.not]
          · rw [decide_eq_false h4, show N.not false = true from rfl, cond_true, nite_pos (by omega), nite_pos (by omega), nite_pos (fits8 (by simp; omega))]
            simp [N.app]
      · have il : (idsP l x).length ≤ l.length := by
          have := idsP_len l x l.length
          rwa [List.take_length] at this
        have hol := orderP_len (idsP l x) x
        simp only [len_d l, lt_self, cond_false, List.take_length]
        rw [spec_OrderFor_is (by omega), bind_some', spec_HoldersOf_is h, bind_some', len_d (holdersP l x)]
        have hhl : (holdersP l x).length ≤ l.length := by rw [holders_count]; exact List.countP_le_length
        have key := loop_upto (stepsP l x k) (fun (i : Nat) (s : Int × List Library) => (s.1, (i : Int), s.2)) (fun i => (((holdersP l x).length : Int) + i, updP x ((orderP (idsP l x) x).take i) l)) (updP x ((orderP (idsP l x) x).take (stepsP l x k)) l, true)
          (step := fun (s2 : Int × Int × List Library) =>
                                    N.cond (N.lt s2.2.1 (N.len (orderP (idsP l x) x)))
                                      (
                                        N.cond (N.lt s2.1 k)
                                          (
                                            loopF (fun (s3 : Int × List Library) =>
                                                N.cond (N.lt s3.1 (N.len s3.2))
                                                  (
                                                    N.ite (0 ≤ s3.1)
                                                      (
                                                        N.ite (s3.1 < N.len s3.2)
                                                          (
                                                            N.ite (0 ≤ s2.2.1)
                                                              (
                                                                N.ite (s2.2.1 < N.len (orderP (idsP l x) x))
                                                                  (
                                                                    N.cond (N.eq ((N.rd s3.2 s3.1 (0, [], false, false)).1) (N.rd (orderP (idsP l x) x) s2.2.1 0))
                                                                      (
                                                                        N.ite (0 ≤ s3.1)
                                                                          (
                                                                            N.ite (s3.1 < N.len s3.2)
                                                                              (
                                                                                N.bind (spec_l9Put ((N.rd s3.2 s3.1 (0, [], false, false)).2.1) x) fun r7 =>
                                                                                  N.ite (0 ≤ s3.1)
                                                                                    (
                                                                                      N.ite (s3.1 < N.len s3.2)
                                                                                        (some (.inl (N.add .i64 s3.1 1, N.set s3.2 s3.1 ((N.rd s3.2 s3.1 (0, [], false, false)).1, r7, (N.rd s3.2 s3.1 (0, [], false, false)).2.2.1, (N.rd s3.2 s3.1 (0, [], false, false)).2.2.2))))
                                                                                        none)
                                                                                    none)
                                                                              none)
                                                                          none)
                                                                      (some (.inl (N.add .i64 s3.1 1, s3.2))))
                                                                  none)
                                                              none)
                                                          none)
                                                      none)
                                                  (some (.inr (.inl (N.add .i64 s2.1 1, N.add .i64 s2.2.1 1, s3.2)))))
                                              (0, s2.2.2))
                                          (some (.inr (s2.2.2, true))))
                                      (some (.inr (s2.2.2, true)))) (fun i hi => ?_) ?_
        · have e0 : updP x ((orderP (idsP l x) x).take 0) l = l := by rw [List.take_zero, updP_nil]
          simp only [e0] at key
          have : ((holdersP l x).length : Int) + ((0 : Nat) : Int) = ((holdersP l x).length : Int) := by omega
          rw [this] at key
          refine Eq.trans (congrArg (Option.map Sum.inr) key) rfl
        · obtain ⟨g1, g2⟩ := steps_lt hi
          have hok := updP_ok h hd hx ((orderP (idsP l x) x).take i)
          have hnx := updP_succ x (order_next _ (orderP_nodup _ _) i g1) l
          rw [← List.take_succ_eq_append_getElem g1] at hnx
          have hul : (updP x ((orderP (idsP l x) x).take i) l).length = l.length := updP_len _ _ _
          have hsmall : ∀ a ∈ updP x ((orderP (idsP l x) x).take i) l, a.2.1.length ≤ 1048576 := fun a ha => (hok.2 a ha).2.1.1
          have a1 : N.add .i64 (((holdersP l x).length : Int) + (i : Int)) 1 = ((holdersP l x).length : Int) + ((i + 1 : Nat) : Int) := by rw [add_id (by omega) (by omega)]; omega
          have a2 : N.add .i64 (i : Int) 1 = ((i + 1 : Nat) : Int) := next_id g1 (by omega)
          simp only [len_d (orderP (idsP l x) x), lt_tt (show (i : Int) < ((orderP (idsP l x) x).length : Int) by omega), cond_true, lt_tt g2, a1, a2, rd_at _ i g1]
          rw [← hnx]
          generalize updP x ((orderP (idsP l x) x).take i) l = out at *
          generalize (orderP (idsP l x) x)[i] = id at *
          refine (loop_upto out.length (fun (j : Nat) (o : List Library) => ((j : Int), o)) (fun j => (out.map fun a => if a.1 = id then putP x a else a).take j ++ out.drop j) _ (fun j hj => ?_) ?_ :)
          · have hol2 := hok.1
            have hlj := map_len (fun a => if a.1 = id then putP x a else a) out j (by omega)
            have hgj := map_get (fun a => if a.1 = id then putP x a else a) out j hj (by rw [hlj]; exact hj)
            have hsj := map_set (fun a => if a.1 = id then putP x a else a) out j hj
            have hdj := hsmall out[j] (List.getElem_mem hj)
            have ln : N.len ((out.map fun a => if a.1 = id then putP x a else a).take j ++ out.drop j) = (out.length : Int) := by rw [len_d, hlj]
            have hrd : N.rd ((out.map fun a => if a.1 = id then putP x a else a).take j ++ out.drop j) (j : Int) (0, [], false, false) = out[j] := by rw [rd_at _ j (by rw [hlj]; exact hj), hgj]
            simp only [ln, lt_tt (show (j : Int) < (out.length : Int) by omega), cond_true, hrd, next_id hj (by omega), spec_l9Put_is hdj, bind_some', set_at]
            rw [nite_pos (by omega), nite_pos (by omega), nite_pos (by omega), nite_pos (by omega)]
            by_cases hid : (out[j]).1 = id
            · rw [eq_tt hid, cond_true, nite_pos (by omega), nite_pos (by omega), nite_pos (by omega), nite_pos (by omega)]
              rw [if_pos hid] at hsj
              rw [← hsj]; rfl
            · rw [eq_ff hid, cond_false]
              rw [if_neg hid] at hsj
              rw [← hsj]
              have : ((out.map fun a => if a.1 = id then putP x a else a).take j ++ out.drop j).set j out[j] = (out.map fun a => if a.1 = id then putP x a else a).take j ++ out.drop j := by
                apply List.ext_getElem (by simp)
                intro i h1 h2
                rw [List.getElem_set]
                split
                · rename_i e; subst e; exact hgj.symm
                · rfl
              rw [this]
          · have hlj := map_len (fun a => if a.1 = id then putP x a else a) out out.length (by omega)
            have ln : N.len ((out.map fun a => if a.1 = id then putP x a else a).take out.length ++ out.drop out.length) = (out.length : Int) := by rw [len_d, hlj]
            simp only [ln, lt_self, cond_false]
            have : (out.map fun a => if a.1 = id then putP x a else a).take out.length ++ out.drop out.length = out.map fun a => if a.1 = id then putP x a else a := by
              rw [List.drop_length, List.append_nil, List.take_of_length_le (by simp)]
            rw [this]
        · simp only [len_d (orderP (idsP l x) x)]
          rcases steps_end l x k with hE | hE
          · rw [lt_ff (by omega), cond_false]
          · by_cases hE2 : stepsP l x k < (orderP (idsP l x) x).length
            · rw [lt_tt (by omega), cond_true, lt_ff hE, cond_false]
            · rw [lt_ff (by omega), cond_false]
  · rw [show libsP l = false by simpa using h1, show N.not false = true from rfl, cond_true]
    rw [if_neg (by simp)]
end Go.Sh.D
set_option linter.unusedVariables false
set_option linter.unusedSimpArgs false
namespace Go.Sh.D
open Go Data
theorem impl_RepairCopies_is {l : List Library} (h : ok l) (hd : ∀ a ∈ l, a.2.1.length ≤ 1048575) {x : Int} (hx : bd x) (k : Int) : impl_RepairCopies l x k = some (repairP l x k) := by
  unfold impl_RepairCopies repairP
  have hl := h.1
  rw [impl_copyLibraries_is h, bind_some', impl_AreLibraries_is h, bind_some']
  by_cases h1 : libsP l = true
  · rw [h1, show N.not true = false from rfl, cond_false, impl_GoodCopies_is h, bind_some']
    by_cases h2 : countAt (fun _ a => goodP x a) l 0 = 0
    · rw [eq_tt h2, cond_true, if_neg (fun hh => hh.2 h2)]
    · rw [eq_ff h2, cond_false, if_pos ⟨rfl, h2⟩]
      have hn := libs_nodup h1
      have h6 : l.length ≤ 6 := by
        unfold libsP at h1
        simp only [Bool.and_eq_true, decide_eq_true_eq] at h1
        exact h1.1
      refine (loop_upto l.length (fun (i : Nat) (o : List Int) => (o, (i : Int))) (fun i => idsP (l.take i) x) _ (fun i hi => ?_) ?_ :)
      · have hdi := (h.2 l[i] (List.getElem_mem hi)).2.1.1
        have hf := idsP_len l x i
        have ln : N.len l = (l.length : Int) := len_d l
        simp only [ln, lt_tt (show (i : Int) < (l.length : Int) by omega), cond_true, rd_at l i hi, next_id hi (by omega), slices_Contains_int_is (l := (l[i]).2.1) (by omega), bind_some', idsP_succ l x i hi]
        rw [nite_pos (by omega), nite_pos (by omega)]
        unfold needP
        cases h3 : (l[i]).2.2.1 with
        | false => simp
        | true =>
          rw [cond_true]
          by_cases h4 : x ∈ (l[i]).2.1
          · simp [h4, N.not]
          · rw [decide_eq_false h4, show N.not false = true from rfl, cond_true, nite_pos (fits8 (by simp; omega))]
            simp [N.app]
      · have il : (idsP l x).length ≤ l.length := by
          have := idsP_len l x l.length
          rwa [List.take_length] at this
        have hol := orderP_len (idsP l x) x
        simp only [len_d l, lt_self, cond_false, List.take_length]
        rw [impl_OrderFor_is (by omega), bind_some']
        have key := loop_upto (stepsP l x k) (fun (i : Nat) (s : List Library) => ((i : Int), s)) (fun i => updP x ((orderP (idsP l x) x).take i) l) (updP x ((orderP (idsP l x) x).take (stepsP l x k)) l, true)
          (step := fun (s2 : Int × List Library) =>
                                  N.cond (N.lt s2.1 (N.len (orderP (idsP l x) x)))
                                    (
                                      N.ite (0 ≤ s2.1)
                                        (
                                          N.ite (s2.1 < N.len (orderP (idsP l x) x))
                                            (
                                              N.bind (impl_HoldersOf s2.2 x) fun r6 =>
                                                N.cond (N.ge (N.len r6) k)
                                                  (some (.inr (s2.2, true)))
                                                  (
                                                    N.bind (slices_IndexFunc_Library_impl_RepairCopies_1 s2.2 (N.rd (orderP (idsP l x) x) s2.1 0)) fun r7 =>
                                                      N.ite (0 ≤ r7)
                                                        (
                                                          N.ite (r7 < N.len s2.2)
                                                            (
                                                              N.bind (impl_withDigest ((N.rd s2.2 r7 (0, [], false, false)).2.1) x) fun r8 =>
                                                                N.ite (0 ≤ r7)
                                                                  (
                                                                    N.ite (r7 < N.len s2.2)
                                                                      (some (.inl (N.add .i64 s2.1 1, N.set s2.2 r7 ((N.rd s2.2 r7 (0, [], false, false)).1, r8, (N.rd s2.2 r7 (0, [], false, false)).2.2.1, (N.rd s2.2 r7 (0, [], false, false)).2.2.2))))
                                                                      none)
                                                                  none)
                                                            none)
                                                        none))
                                            none)
                                        none)
                                    (some (.inr (s2.2, true)))) (fun i hi => ?_) ?_
        · have e0 : updP x ((orderP (idsP l x) x).take 0) l = l := by rw [List.take_zero, updP_nil]
          simp only [e0] at key
          refine Eq.trans (congrArg (Option.map Sum.inr) key) rfl
        · obtain ⟨g1, g2⟩ := steps_lt hi
          have hok := updP_ok h hd hx ((orderP (idsP l x) x).take i)
          have hnx := updP_succ x (order_next _ (orderP_nodup _ _) i g1) l
          rw [← List.take_succ_eq_append_getElem g1] at hnx
          obtain ⟨t1, t2⟩ := take_order (x := x) hn i
          have hh := holders_upd hn t1 t2
          have hti : ((orderP (idsP l x) x).take i).length = i := by simp; omega
          rw [hti] at hh
          have hidn := updP_idn x ((orderP (idsP l x) x).take i) l
          have hmem : (orderP (idsP l x) x)[i] ∈ idn l := (idsP_sub l x).subset ((orderP_mem _ _ _).1 (List.getElem_mem g1))
          have a2 : N.add .i64 (i : Int) 1 = ((i + 1 : Nat) : Int) := next_id g1 (by omega)
          simp only [len_d (orderP (idsP l x) x), lt_tt (show (i : Int) < ((orderP (idsP l x) x).length : Int) by omega), cond_true, a2, rd_at _ i g1]
          rw [nite_pos (by omega), nite_pos (by omega), impl_HoldersOf_is hok, bind_some', ← hnx]
          rw [← hidn] at hmem hn
          generalize updP x ((orderP (idsP l x) x).take i) l = out at *
          generalize (orderP (idsP l x) x)[i] = id at *
          have hge : N.ge (N.len (holdersP out x)) k = false := by
            rw [ge_d, len_d]; exact decide_eq_false (by omega)
          rw [hge, cond_false]
          obtain ⟨j, hj, hje⟩ := List.getElem_of_mem hmem
          have hj' : j < out.length := by simpa [idn] using hj
          have hje' : (out[j]).1 = id := by simpa [idn] using hje
          have hol2 := hok.1
          have hix := index_is out id j hj' hol2 hje' fun i hi hij e => by
            have hne := List.pairwise_iff_getElem.1 (List.nodup_iff_pairwise_ne.1 hn)
            exact hne i j (by simpa [idn] using hi) (by simpa [idn] using hj') hij (by simp only [idn, List.getElem_map]; rw [e, hje'])
          have hdj := (hok.2 out[j] (List.getElem_mem hj')).2.1.1
          rw [hix, bind_some', nite_pos (by omega), nite_pos (by rw [len_d]; omega), rd_at out j hj', impl_withDigest_is hdj, bind_some', nite_pos (by omega), nite_pos (by rw [len_d]; omega), set_at]
          have := setAt_map (x := x) hn j hj'
          rw [hje'] at this
          rw [← this]; rfl
        · obtain ⟨t1, t2⟩ := take_order (x := x) hn (stepsP l x k)
          have hh := holders_upd hn t1 t2
          have hti : ((orderP (idsP l x) x).take (stepsP l x k)).length = stepsP l x k := by have := steps_le l x k; simp; omega
          rw [hti] at hh
          have hok := updP_ok h hd hx ((orderP (idsP l x) x).take (stepsP l x k))
          simp only [len_d (orderP (idsP l x) x)]
          by_cases hE2 : stepsP l x k < (orderP (idsP l x) x).length
          · have hE := (steps_end l x k).resolve_left (by omega)
            rw [lt_tt (by omega), cond_true, nite_pos (by omega), nite_pos (by omega), impl_HoldersOf_is hok, bind_some', show N.ge (N.len (holdersP (updP x ((orderP (idsP l x) x).take (stepsP l x k)) l) x)) k = true by rw [ge_d, len_d]; exact decide_eq_true (by omega), cond_true]
          · rw [lt_ff (by omega), cond_false]
  · rw [show libsP l = false by simpa using h1, show N.not false = true from rfl, cond_true]
    rw [if_neg (by simp)]

theorem repair_ok {l : List Library} (h : ok l) (hd : ∀ a ∈ l, a.2.1.length ≤ 1048575) {x : Int} (hx : bd x) (k : Int) : ok (repairP l x k).1 := by
  unfold repairP
  split
  · exact updP_ok h hd hx _
  · exact h

/-- what the sizes say of the rows inside -/
theorem szLib_less (x : List Library) (hb : bd x) : ∃ r, laws_szLibraryS x 1048576 = some r ∧ (r < 0 ∨ ∀ a ∈ x, a.2.1.length ≤ 1048575) := by
  have hbl := hb.1
  unfold laws_szLibraryS
  rw [len_d, sub_id (by omega) (by omega), lt_d, cond_dec]
  by_cases hlen : (1048576 : Int) - (x.length : Int) < 0
  · rw [if_pos hlen]
    exact ⟨_, rfl, .inl (by omega)⟩
  · rw [if_neg hlen]
    refine loop_meas (fun s => ∃ i : Nat, s.2 = (i : Int) ∧ i ≤ x.length ∧ 0 ≤ s.1 ∧ s.1 ≤ 1048576 - (x.length : Int) ∧ ∀ (j : Nat) (hj : j < x.length), j < i → (x[j]).2.1.length ≤ 1048575) (fun s => x.length - s.2.toNat) (fun r => r < 0 ∨ ∀ a ∈ x, a.2.1.length ≤ 1048575) (fun s hI => ?_) _ ⟨0, rfl, by omega, by simp only; omega, by simp only; omega, fun j _ hj => absurd hj (Nat.not_lt_zero _)⟩
    obtain ⟨q, s2⟩ := s
    obtain ⟨i, rfl, hi, h0, h1, hI⟩ := hI
    simp only at h0 h1
    by_cases hlt : i < x.length
    · have hbi := (hb.2 x[i] (List.getElem_mem hlt)).2.1.1
      simp only [lt_tt (show (i : Int) < (x.length : Int) by omega), cond_true, rd_at x i hlt, next_id hlt (by omega)]
      rw [nite_pos (by omega), nite_pos (by omega)]
      unfold laws_szLibrary laws_szIntS
      rw [len_d, sub_id (by omega) (by omega)]
      by_cases hneg : q - ((x[i]).2.1.length : Int) < 0
      · right
        refine ⟨-1, ?_, .inl (by omega)⟩
        rw [lt_tt hneg, cond_true, bind_some', lt_tt (by omega), cond_true, bind_some', lt_tt (by omega), cond_true]
      · left
        refine ⟨(q - ((x[i]).2.1.length : Int), ((i + 1 : Nat) : Int)), ?_, ⟨i + 1, rfl, by omega, by simp only; omega, by simp only; omega, fun j hj hji => ?_⟩, by simp only [Int.toNat_natCast]; omega⟩
        · rw [lt_ff hneg, cond_false, bind_some', lt_ff hneg, cond_false, bind_some', lt_ff hneg, cond_false]
        · by_cases hjk : j < i
          · exact hI j hj hjk
          · obtain rfl : j = i := by omega
            have : 0 < x.length := by omega
            omega
    · right
      obtain rfl : i = x.length := by omega
      refine ⟨q, ?_, .inr fun a ha => ?_⟩
      · simp only [lt_self, cond_false]
      · obtain ⟨j, hj, rfl⟩ := List.getElem_of_mem ha
        exact hI j hj hj

theorem FnExactRepairCopies_true (x : List Library) (y z : Int) (hx : bd x) (hy : bd y) (_ : bd z) : laws_FnExactRepairCopies x y z = some true := by
  unfold laws_FnExactRepairCopies
  obtain ⟨s, e, hs⟩ := laws_szLibraryS_is x 1048576 hx (by omega) (by omega)
  obtain ⟨s', e', hs'⟩ := szLib_less x hx
  rw [e] at e'
  simp only [Option.some.injEq] at e'
  subst e'
  rw [e, bind_some', lt_d, cond_dec]
  rcases hs with hs | ⟨hk, h0, h1⟩
  · rw [if_pos hs]
  rw [if_neg (by omega)]
  have hd := hs'.resolve_left (by omega)
  have hr := repair_ok hk hd hy z
  have hwx : 0 ≤ sumW wLib x := sumW_nonneg wLib_pos x
  have hwr : 0 ≤ sumW wLib (repairP x y z).1 := sumW_nonneg wLib_pos _
  have n1 : ¬ 1 + sumW wLib x < 0 := by omega
  have n2 : ¬ 1 + sumW wLib (repairP x y z).1 < 0 := by omega
  simp only [laws_toLibraryS_is _ hk, bind_some', spec_RepairCopies_is hk hd hy, impl_RepairCopies_is hk hd hy, laws_eqLibraryS_is _ _ hr, laws_eqLibraryS_is _ _ hk, laws_markLibraryS_is (k := 1) (by omega) (by omega) hk, laws_markLibraryS_is (k := 1) (by omega) (by omega) hr, laws_heldLibraryS_is (k0 := 1) (by omega) (by omega) hr, lt_d, ne_d, neB_d]
  simp [n1, n2, N.not]
end Go.Sh.D
