/- The evaluator and its soundness, part 3: a function of the program does what its native form tells. -/
import Derived.Test.YtfipolbgkppdjaaGreatDoorSh2
set_option linter.unusedVariables false
set_option linter.unusedSimpArgs false
namespace Go.Sh
open Go Go.RowKit

section
variable {cx cx' : Cx} {w w' : World} {G : Base} {M M' nx n' : Nat} {H H' Hm : Heap} {P : Program} {E : Env}

/-- a row or box that is written -/
theorem RH.set [Laid] (h : RH G M H cx w) {n : Nat} {o0 : Ob} (hn : H n = some o0) {fs : List Nat} (hf : Free G H cx w fs) (nx : Nat) (o : Ob) (r : RO) (hst : Stays w w' (cx.μ n).foot)
    (hr : r.v = (cx.μ n).v ∧ r.len = (cx.μ n).len ∧ r.es = (cx.μ n).es ∧ r.ver = (cx.μ n).ver + 1) (hfoot : ∀ b ∈ r.foot, b ∈ (cx.μ n).foot ∨ b ∈ fs) (hnd : r.foot.Nodup)
    (hob : Tr nx nx cx w (cx.at n r) w' → ObR (cx.at n r) w' r o) :
    RH G M (fun m => if m = n then some o else H m) (cx.at n r) w' ∧ Tr nx nx cx w (cx.at n r) w' := by
  have hsm : ∀ m o', m ≠ n → H m = some o' → ∀ b ∈ (cx.μ m).foot, Same w w' b := fun m o' hne hm b hb =>
    hst.same b (h.mine m o' b hm hb).2.1 fun hb' => h.dj m n o' o0 hm hn hne b hb hb'
  have hSw : ∀ b, cx.S b → Same w w' b := fun b hb => hst.same b (h.ss b hb) fun hb' => (h.mine n o0 b hn hb').2.2 hb
  have htr : Tr nx nx cx w (cx.at n r) w' := ⟨fun b hb => hb, hSw, fun m _ => by
    by_cases hm : m = n
    · subst hm; rw [Cx.at_self]; exact ⟨hr.1, hr.2.1, hr.2.2.1, by omega, fun hv => absurd hv (by omega)⟩
    · rw [Cx.at_other _ _ _ _ hm]
      refine ⟨rfl, rfl, rfl, Nat.le_refl _, fun _ => ⟨rfl, fun b hb => ?_⟩⟩
      cases hm' : H m with
      | none => rw [h.dead m hm'] at hb; cases hb
      | some o' => exact hsm m o' hm hm' b hb⟩
  refine ⟨?_, htr⟩
  refine h.step (fun m => m = n) (Nat.le_refl _) (fun m hm => ⟨if_neg hm, Cx.at_other _ _ _ _ hm⟩) (fun m o' hne hm => hsm m o' hne hm) ?_ ?_ ?_ ?_ ?_ ?_ hst.os hst.tape hst.output hst.size ?_ htr fun m o' _ _ k _ => by omega
  · rintro m o' rfl ho
    simp at ho; subst ho
    rw [Cx.at_self]
    refine ⟨hob htr, h.lt _ _ hn, hnd, fun b hb => ?_⟩
    rcases hfoot b hb with hb | hb
    · obtain ⟨h1, h2, h3⟩ := h.mine m o0 b hn hb
      exact ⟨h1, Nat.lt_of_lt_of_le h2 hst.size, h3⟩
    · obtain ⟨a1, a2, a3, _⟩ := hf b hb
      exact ⟨.inl a1, Nat.lt_of_lt_of_le a2 hst.size, a3⟩
  · rintro m rfl ho; simp at ho
  · rintro m k o1 o2 rfl h1 hne h2 b hb hb'
    rw [Cx.at_self] at hb
    rcases hfoot b hb with hb | hb
    · exact h.dj m k o0 o2 hn h2 (Ne.symm hne) b hb hb'
    · exact (hf b hb).2.2.2 k o2 h2 hb'
  · rintro m k o1 o2 rfl rfl _ _ hne; exact absurd rfl hne
  · rintro m o' b hm ho hb hS; exact (h.mine m o' b ho hb).2.2 hS
  · rintro b hb; exact ⟨Nat.lt_of_lt_of_le (h.ss b hb) hst.size, h.sg b hb⟩
  · intro b hb hl
    refine hst.same b (Nat.lt_of_lt_of_le hb h.size) fun hbf => ?_
    have := (h.mine n o0 b hn hbf).1
    rcases this with h1 | h1
    · omega
    · exact hl h1.2

theorem setRow_stays (w : World) (g : Nat) (cs : Array Value) (fs : List Nat) (hg : g ∈ fs) : Stays w (w.setRow g cs) fs :=
  ⟨rfl, rfl, rfl, by simp [World.setRow], fun b _ hb => setRow_other w g b cs fun e => hb (e ▸ hg)⟩

theorem run_storeAt (hE : TabOk P E) {t : TypeId} {ti : TI} (ht : E.ti t = some ti) {g o : Nat} {T : TypeId} {cur : Array Value} (hg : w.heap[g]? = some (.cells cur T (0, 0))) {v : Value} {vs : List Value} (hv : v.cells = vs.toArray) (hl : vs.length = ti.size) (hle : o + vs.length ≤ cur.size) (h1 : ∀ u ∈ vs, u.oneCell' = true) :
    (Instr.storeAt t (.pointer (some ⟨g, o, none⟩)) v).run P w = .ok () (w.setRow g (cur.toList.take o ++ vs ++ cur.toList.drop (o + vs.length)).toArray) := by
  have hs := run_storeCells_at P g o T vs 0 cur w hg (by simpa using hle) h1
  simp only [Nat.add_zero] at hs
  simp only [Instr.storeAt, Sem.run_bind, Instr.sureAddr, Sem.run_pure, Result.andThen_ok, storeVar, hE.size ht, hv, List.size_toArray, hl, ne_eq, not_true_eq_false, if_false, hs, List.toList_toArray]

theorem splice_all2 {r : LV → Value → Prop} {cs vs : List LV} {xs us : List Value} {o : Nat} (h1 : All2 r cs xs) (h2 : All2 r vs us) : All2 r (splice cs o vs) (xs.take o ++ us ++ xs.drop (o + us.length)) := by
  unfold splice
  rw [h2.len]
  exact ((h1.take o).append h2).append (h1.drop _)

theorem flatten_set {α : Type} {k : Nat} (hk : 0 < k) : ∀ (css : List (List α)) (hl : ∀ c ∈ css, c.length = k) (i : Nat) (hi : i < css.length) (c : List α), c.length = k → (css.set i c).flatten = css.flatten.take (i * k) ++ c ++ css.flatten.drop (i * k + k)
  | c0 :: css, hl, 0, hi, c, hc => by
    have h0 : c0.length = k := hl c0 (by simp)
    simp [List.flatten_cons, ← h0]
  | c0 :: css, hl, i + 1, hi, c, hc => by
    have h0 : c0.length = k := hl c0 (by simp)
    have ih := flatten_set hk css (fun c hc => hl c (List.mem_cons_of_mem _ hc)) i (by simpa using hi) c hc
    simp only [List.set_cons_succ, List.flatten_cons, ih]
    have e1 : (i + 1) * k = c0.length + i * k := by rw [h0, Nat.succ_mul]; omega
    rw [e1, List.take_length_add_append, List.append_assoc, List.append_assoc, List.append_assoc]
    congr 3
    rw [show c0.length + i * k + k = c0.length + (i * k + k) by omega, List.drop_length_add_append]

theorem over_before (p : Nat) (vals : List Value) : ∀ (o : Nat) (c : List Value), o + c.length ≤ p → over p vals o c = c
  | _, [], _ => rfl
  | o, v :: c, h => by
    simp only [List.length_cons] at h
    simp only [over]; rw [if_neg (by omega), over_before p vals (o + 1) c (by omega)]

theorem over_behind (p : Nat) (vals : List Value) : ∀ (o : Nat) (c : List Value), p + vals.length ≤ o → over p vals o c = c
  | _, [], _ => rfl
  | o, v :: c, h => by simp only [over]; rw [if_neg (by omega), over_behind p vals (o + 1) c (by omega)]

theorem over_shift (p q : Nat) (vals : List Value) : ∀ (o : Nat) (c : List Value), over (q + p) vals (q + o) c = over p vals o c
  | _, [] => rfl
  | o, v :: c => by
    simp only [over]
    rw [show q + o + 1 = q + (o + 1) by omega, over_shift p q vals (o + 1) c]
    congr 1
    by_cases h : p ≤ o ∧ o < p + vals.length
    · rw [if_pos h, if_pos (by omega)]; congr 1; omega
    · rw [if_neg h, if_neg (by omega)]

/-- a write into element i of a row, over the elements' cells -/
theorem write_flatten [Laid] {k : Nat} (hk : 0 < k) (css : List (List Value)) (hl : ∀ c ∈ css, c.length = k) (i : Nat) (hi : i < css.length) (o : Nat) (vals : List Value) (ho : o + vals.length ≤ k) (X : List Value) (n : Nat) (hX : X.take n = css.flatten) (hn : n ≤ X.length) (hn' : n = css.length * k) :
    (X.take (i * k + o) ++ vals ++ X.drop (i * k + o + vals.length)).take n = (css.set i (over o vals 0 (css[i]'hi))).flatten := by
  have hik : i * k + k ≤ n := by rw [hn', ← Nat.succ_mul]; exact Nat.mul_le_mul_right _ hi
  have hci : (css[i]'hi).length = k := hl _ (List.getElem_mem _)
  have h1 : (X.take (i * k + o) ++ vals ++ X.drop (i * k + o + vals.length)).take n = over (i * k + o) vals 0 (X.take n) := by
    rw [over_zero _ _ _ (by rw [List.length_take]; omega)]
    rw [List.append_assoc, List.append_assoc, List.take_append, List.take_append, List.take_take, List.take_take, List.length_take]
    rw [Nat.min_eq_right (by omega : i * k + o ≤ n), Nat.min_eq_left (by omega : i * k + o ≤ n), Nat.min_eq_left (by omega : i * k + o ≤ X.length)]
    congr 1
    rw [List.take_of_length_le (by omega)]
    congr 1
    rw [List.drop_take]
    congr 1
    omega
  rw [h1, hX]
  have hA : (css.take i).flatten.length = i * k := by
    have : ∀ (l : List (List Value)), (∀ c ∈ l, c.length = k) → l.flatten.length = l.length * k := by
      intro l
      induction l with
      | nil => simp
      | cons c l ih => intro h; simp [ih fun c hc => h c (List.mem_cons_of_mem _ hc), h c (by simp), Nat.succ_mul, Nat.add_comm]
    rw [this _ fun c hc => hl c (List.mem_of_mem_take hc), List.length_take, Nat.min_eq_left (by omega)]
  have hsplit : css.flatten = (css.take i).flatten ++ (css[i]'hi ++ (css.drop (i + 1)).flatten) := by
    rw [← List.flatten_cons, ← List.flatten_append, ← List.drop_eq_getElem_cons, List.take_append_drop]
  rw [hsplit, over_append, over_append, over_before _ _ _ _ (by omega), Nat.zero_add, hA, over_behind (i * k + o) vals (i * k + (css[i]'hi).length) _ (by omega)]
  have := over_shift o (i * k) vals 0 (css[i]'hi)
  rw [Nat.add_zero] at this
  rw [this]
  rw [List.set_eq_take_append_cons_drop, if_pos hi, List.flatten_append, List.flatten_cons]

theorem All3.set {α β γ : Type} {r : α → β → γ → Prop} : ∀ {x : List α} {y : List β} {z : List γ} (i : Nat) {a : α} {b : β} {c : γ}, All3 r x y z → r a b c → All3 r (x.set i a) (y.set i b) (z.set i c)
  | [], [], [], _, _, _, _, _, _ => by simp [All3]
  | _ :: _, _ :: _, _ :: _, 0, _, _, _, h, hr => ⟨hr, h.2⟩
  | _ :: _, _ :: _, _ :: _, i + 1, _, _, _, h, hr => ⟨h.1, All3.set i h.2 hr⟩

theorem nodup_of_flatten : ∀ {bss : List (List Nat)} {l : List Nat}, bss.flatten.Nodup → l ∈ bss → l.Nodup
  | b :: bss, l, h, hl => by
    rw [List.flatten_cons, List.nodup_append] at h
    rcases List.mem_cons.1 hl with rfl | hl
    · exact h.1
    · exact nodup_of_flatten h.2.1 hl

theorem flatten_mem_set {bss : List (List Nat)} {i : Nat} {c : List Nat} {b : Nat} (h : b ∈ (bss.set i c).flatten) : b ∈ bss.flatten ∨ b ∈ c := by
  obtain ⟨l, hl, hb⟩ := List.mem_flatten.1 h
  rcases List.mem_or_eq_of_mem_set hl with h1 | h1
  · exact .inl (List.mem_flatten.2 ⟨l, h1, hb⟩)
  · exact .inr (h1 ▸ hb)

theorem nodup_flatten_set [Laid] : ∀ {bss : List (List Nat)} {i : Nat} {c : List Nat} (hi : i < bss.length), bss.flatten.Nodup → c.Nodup → (∀ b ∈ c, b ∈ bss[i] ∨ b ∉ bss.flatten) → (bss.set i c).flatten.Nodup
  | b0 :: bss, 0, c, hi, h, hc, hb => by
    simp only [List.set_cons_zero, List.flatten_cons, List.nodup_append, List.getElem_cons_zero] at h hb ⊢
    refine ⟨hc, h.2.1, fun p hp q hq e => ?_⟩
    subst e
    rcases hb p hp with h1 | h1
    · exact h.2.2 p h1 p hq rfl
    · exact h1 (List.mem_append_right _ hq)
  | b0 :: bss, i + 1, c, hi, h, hc, hb => by
    simp only [List.set_cons_succ, List.flatten_cons, List.nodup_append, List.getElem_cons_succ] at h hb ⊢
    refine ⟨h.1, nodup_flatten_set (by simpa using hi) h.2.1 hc fun b hbc => ?_, fun p hp q hq e => ?_⟩
    · exact (hb b hbc).imp id fun h' h1 => h' (List.mem_append_right _ h1)
    · subst e
      rcases flatten_mem_set hq with h1 | h1
      · exact h.2.2 p hp p h1 rfl
      · rcases hb p h1 with h2 | h2
        · have : p ∈ bss.flatten := List.mem_flatten.2 ⟨_, List.getElem_mem _, h2⟩
          exact h.2.2 p hp p this rfl
        · exact h2 (List.mem_append_left _ hp)

theorem okUpd_spec {n : Nat} : ∀ {u : Upd}, okUpd n u = true → (∀ m ∈ Upd.names u, m ≠ n) ∧ (Upd.names u).Nodup
  | [], _ => ⟨fun m hm => by simp [Upd.names] at hm, by simp [Upd.names]⟩
  | (m, o) :: u, h => by
    simp only [okUpd, Bool.and_eq_true, bne_iff_ne, ne_eq, Bool.not_eq_true', List.any_eq_false, beq_iff_eq] at h
    obtain ⟨h1, h2⟩ := okUpd_spec h.2
    refine ⟨fun k hk => ?_, ?_⟩
    · simp only [Upd.names, List.map_cons, List.mem_cons] at hk
      rcases hk with rfl | hk
      · exact h.1.1
      · exact h1 k hk
    · simp only [Upd.names, List.map_cons, List.nodup_cons]
      refine ⟨fun hm => ?_, h2⟩
      obtain ⟨p, hp, e⟩ := List.mem_map.1 hm
      exact h.1.2 p hp e

theorem storeSV_is [Laid] (hE : TabOk P E) (hio : E.nio = G.nio) (h : RH G M H cx w) (hm : ∀ n o, Hm n = some o → H n = some o) {wr : Nat → Bool} {t : TypeId} {a v : SV} {av vv : Value} (ha : VR cx w a av) (hv : VR cx w v vv) {R : Type} {r : R} {K : Upd → Option R} (hh : storeSV E Hm wr t a v K = some r) :
    ∃ u, (∀ {R : Type} (K : Upd → Option R), storeSV E Hm wr t a v K = K u) ∧ ∃ w' cx', (Instr.storeAt t av vv).run P w = .ok () w' ∧ RH G M (H.upd u) cx' w' ∧ Tr nx nx cx w cx' w' := by
  unfold storeSV at hh
  split at hh
  · rename_i ti vs ht hcs
    obtain ⟨vals, hvc, hvs⟩ := cells_sound hv hcs
    split at hh
    · rename_i hsz
      have hvl : vals.length = ti.size := by rw [← hvs.len, hsz]
      split at hh
      · rename_i n o
        split at hh
        · rename_i cs hn
          split at hh
          · rename_i hc
            simp only [Bool.and_eq_true, decide_eq_true_eq] at hc
            obtain ⟨g, e1, rfl⟩ := ha
            have hn' := hm _ _ hn
            obtain ⟨g', cur, T, e2, e3, e4, hcur⟩ := h.ob n _ hn'
            rw [e1] at e2
            simp only [Value.pointer.injEq, Option.some.injEq, Addr.mk.injEq, and_true] at e2
            subst e2
            have hcl := hcur.len
            have hrun := run_storeAt hE ht (o := o) e4 hvc hvl (by rw [hvl]; simp at hcl; omega) hvs.ones
            obtain ⟨s1, s2⟩ := h.set (w' := w.setRow g (cur.toList.take o ++ vals ++ cur.toList.drop (o + vals.length)).toArray) hn' Free.nil nx (.box (splice cs o vs)) ⟨(cx.μ n).v, (cx.μ n).len, (cx.μ n).es, (cx.μ n).ver + 1, (cx.μ n).foot⟩ (setRow_stays w g _ _ (by rw [e3]; simp)) ⟨rfl, rfl, rfl, rfl⟩ (fun b hb => .inl hb) (h.nd n _ hn') fun htr =>
              ⟨g, _, T, e1, e3, setRow_heap w g cur _ T (0, 0) e4, splice_all2 (VL.trs htr (fun c _ m _ => by omega) hcur) (VL.trs htr (fun c _ m _ => by omega) hvs)⟩
            exact ⟨[(n, some (.box (splice cs o vs)))], fun K => by simp only [storeSV, ht, hcs, hn]; rw [if_pos hsz, if_pos (by simpa using hc)], _, _, hrun, s1, s2⟩
          · cases hh
        · cases hh
      · rename_i n i o
        split at hh
        · rename_i T e d ver xs hn
          split at hh
          · rename_i hc
            simp only [Bool.and_eq_true, decide_eq_true_eq] at hc
            split at hh
            · rename_i y u hput
              split at hh
              · rename_i hok
                obtain ⟨hne, hnd⟩ := okUpd_spec hok
                obtain ⟨g, cap, e1, h0, h1, rfl⟩ := ha
                have hn' := hm _ _ hn
                obtain ⟨hver, hl, hes, hrow⟩ := h.ob n _ hn'
                have hnn : n ∉ Upd.names u := fun hmem => hne n hmem rfl
                have hrow' := hrow
                rcases hrow with ⟨rfl, _⟩ | ⟨g', cap', cur, css, bss, f1, f2, f3, f4, f5, f6, f7, f8⟩
                · rw [hl] at h1; simp at h1; omega
                rw [e1] at f1
                simp only [Value.slice.injEq, Option.some.injEq, Addr.mk.injEq, and_true] at f1
                obtain ⟨rfl, _, rfl⟩ := f1
                rw [hl] at h1
                have hi : i.toNat < xs.length := by omega
                obtain ⟨ci, bi, g1, g2, hEl⟩ := All3.get _ _ _ f8 i.toNat hi
                rw [rd_getD xs i _ h0 h1] at hput
                have hlens := f8.len
                have hcl : ∀ c ∈ css, c.length = e.size := fun c hc => by
                  obtain ⟨k, hk, ek⟩ := List.getElem_of_mem hc
                  obtain ⟨c', b', e3, _, hE'⟩ := All3.get _ _ _ f8 k (by omega)
                  have : c' = c := by rw [List.getElem?_eq_getElem hk] at e3; simpa [ek] using e3.symm
                  exact this ▸ hE'.size
                have hfl : (cx.μ n).foot = g :: bss.flatten := f7
                have hbi : ∀ b ∈ bi, b ∈ bss.flatten := fun b hb => List.mem_flatten.2 ⟨bi, List.mem_of_getElem? g2, hb⟩
                have hfn := h.nd n _ hn'
                rw [hfl, List.nodup_cons] at hfn
                have hbn : bi.Nodup := nodup_of_flatten hfn.2 (List.mem_of_getElem? g2)
                -- the element with the flag that 'put' was called with
                have hEl2 : El w cx.S (d && !e.flat) e ci (xs[i.toNat]'hi) bi := by
                  unfold El at hEl ⊢
                  cases d with
                  | false => simpa using hEl
                  | true =>
                    simp only [if_true] at hEl
                    cases hfe : e.flat with
                    | false => simpa using hEl
                    | true =>
                      have := hEl.flat hfe
                      subst this
                      simp
                      exact hEl.rd fun b hb => by cases hb
                obtain ⟨cx1, b1, tk, a1, a2, a3, a4, a5, a6, a7, a8, a9, a10⟩ := Ty.put_sound (G := G) (M := M) (wr := tk E wr) (fun m hm => by simp [tk, hio] at hm; exact hm.2) nx o (vals := vals) (done := []) h ⟨fun n o _ hn => hm n o hn, fun n hn => (by cases hn)⟩ hput (fun _ _ => by simp) hnd hvs hEl2 hbn
                  (fun b hb hc => by
                    obtain ⟨m, o', hmem, hmo, hmf⟩ := hc b (by simp)
                    exact h.dj m n o' _ hmo hn' (hne m hmem) b hmf (by rw [hfl]; exact List.mem_cons_of_mem _ (hbi b hb)))
                rw [List.nil_append] at a9
                have hn1 : H.upd u n = some (.vec T e d ver xs) := by rw [Heap.upd_other H u hnn]; exact hn'
                have hμn := a10 n hnn
                have hEl3 : El w cx1.S d e (over o vals 0 ci) y b1 := by
                  unfold El at a4 ⊢
                  cases d with
                  | false => simpa using a4
                  | true =>
                    simp only [if_true]
                    cases hfe : e.flat with
                    | false => simpa [hfe] using a4
                    | true =>
                      simp [hfe] at a4
                      rw [a4.2]; exact a4.1.flat hfe
                have hcisz : ci.length = e.size := hEl.size
                have hrun := run_storeAt hE ht (o := i.toNat * e.size + o) f2 hvc hvl (by
                  have : i.toNat * e.size + e.size ≤ cap * e.size := by
                    rw [← Nat.succ_mul]; exact Nat.mul_le_mul_right _ (by omega)
                  rw [f5, hvl]; omega) hvs.ones
                have hover : over o vals 0 ci = ci.take o ++ vals ++ ci.drop (o + vals.length) := over_zero o vals ci (by rw [hvl, hcisz]; exact hc.2)
                refine ⟨u ++ [(n, some (.vec T e d (ver + 1) (N.set xs i y)))], fun K => by simp only [storeSV, ht, hcs, hn]; rw [if_pos hsz, if_pos (by simpa using hc), rd_getD xs i _ h0 h1, hput]; simp only [hok, if_true], ?_⟩
                rw [Heap.upd_append]
                rw [hes]
                obtain ⟨s1, s2⟩ := a1.set (w' := w.setRow g (cur.toList.take (i.toNat * e.size + o) ++ vals ++ cur.toList.drop (i.toNat * e.size + o + vals.length)).toArray) hn1 a7 nx (.vec T e d (ver + 1) (N.set xs i y)) ⟨(cx1.μ n).v, (cx1.μ n).len, (cx1.μ n).es, (cx1.μ n).ver + 1, g :: (bss.set i.toNat b1).flatten⟩
                  (setRow_stays w g _ _ (by rw [hμn, hfl]; simp)) ⟨rfl, rfl, rfl, rfl⟩ (fun b hb => by
                    rw [hμn, hfl]
                    rcases List.mem_cons.1 hb with rfl | hb
                    · exact .inl (by simp)
                    · rcases flatten_mem_set hb with hb | hb
                      · exact .inl (List.mem_cons_of_mem _ hb)
                      · rcases a6 b hb with hb | hb
                        · exact .inl (List.mem_cons_of_mem _ (hbi b hb))
                        · exact .inr hb) (by
                    have htkn : ∀ b ∈ tk, b ∉ (cx1.μ n).foot := fun b hb => (a7 b hb).2.2.2 n _ hn1
                    rw [hμn, hfl] at htkn
                    rw [List.nodup_cons]
                    refine ⟨fun hg => ?_, nodup_flatten_set (by omega) hfn.2 a5 fun b hb => ?_⟩
                    · rcases flatten_mem_set hg with hg | hg
                      · exact hfn.1 hg
                      · rcases a6 g hg with hg | hg
                        · exact hfn.1 (hbi g hg)
                        · exact htkn g hg (by simp)
                    · rcases a6 b hb with hb | hb
                      · left
                        have hlt : i.toNat < bss.length := by omega
                        rw [List.getElem?_eq_getElem hlt] at g2
                        simp at g2; rw [g2]; exact hb
                      · right; exact fun hb' => htkn b hb (List.mem_cons_of_mem _ hb')) fun htr => by
                    refine ⟨by rw [hver, hμn], by simp [N.set, hμn, hl], by simp [hμn, hes], ?_⟩
                    refine .inr ⟨g, cap, _, css.set i.toNat (over o vals 0 ci), bss.set i.toNat b1, ?_, setRow_heap w g cur _ T (0, 0) f2, ?_, f4, ?_, ?_, rfl, ?_⟩
                    · simp [N.set, hμn, e1, hl]
                    · simpa [N.set] using f3
                    · have : i.toNat * e.size + e.size ≤ cap * e.size := by
                        rw [← Nat.succ_mul]; exact Nat.mul_le_mul_right _ (by omega)
                      simp [f5]; rw [hvl]; omega
                    · have hci : css[i.toNat]'(by omega) = ci := by
                        have hlt : i.toNat < css.length := by omega
                        rw [List.getElem?_eq_getElem hlt] at g1
                        simpa using g1
                      have := write_flatten e.size_pos css hcl i.toNat (by omega) o vals (by rw [hvl]; exact hc.2) cur.toList (xs.length * e.size) f6 (by simp [f5]; exact Nat.mul_le_mul_right _ f3) (by rw [← hlens.1])
                      simp only [N.set, List.length_set, List.toList_toArray]
                      rw [this, hci]
                    · unfold N.set
                      refine All3.set _ (f8.mono fun c x bs hb hE' => ?_) ?_
                      · refine hE'.mono (fun b hb => htr.S b (a2.S b hb)) (fun b hb => htr.hp b (a2.S b hb)) fun b hbb => ?_
                        exact setRow_other w g b _ fun eq => hfn.1 (eq ▸ List.mem_flatten.2 ⟨bs, hb, hbb⟩)
                      · refine hEl3.mono htr.S htr.hp fun b hb => setRow_other w g b _ fun eq => ?_
                        rcases a6 b hb with hb | hb
                        · exact hfn.1 (eq ▸ hbi b hb)
                        · exact (a7 b hb).2.2.2 n _ hn1 (by rw [hμn, hfl, eq]; simp)
                exact ⟨_, _, hrun, s1, a2.trans s2 (Nat.le_refl _) (Nat.le_refl _)⟩
              · cases hh
            · cases hh
          · cases hh
        · cases hh
      · cases hh
    · cases hh
  · cases hh
end
end Go.Sh

namespace Go.Sh
open Go Go.RowKit

section
variable {cx cx' : Cx} {w w' : World} {G : Base} {M M' nx n' : Nat} {H H' Hm : Heap} {P : Program} {E : Env}

/-- values one by one, each of so many cells -/
def PartsV (w : World) : List SV → List (List Value) → List Value → Prop := fun _ _ _ => True

/-- what is given up becomes nothing, or stays as it is: no names in it -/
def Bare (o : Option Ob) : Prop := ∀ b, o = some b → b.names = []

theorem Heap.upd_mem [Laid] {p : Option Ob → Prop} : ∀ {u : Upd} {H : Heap} {m : Nat}, (∀ q ∈ u, p q.2) → m ∈ Upd.names u → p (H.upd u m)
  | (n, o) :: u, H, m, hp, hm => by
    by_cases hmu : m ∈ Upd.names u
    · exact Heap.upd_mem (u := u) (fun q hq => hp q (List.mem_cons_of_mem _ hq)) hmu
    · show p (Heap.upd _ u m)
      rw [Heap.upd_other _ u hmu]
      simp only [Upd.names, List.map_cons, List.mem_cons] at hm
      rcases hm with rfl | hm
      · simp only [if_true]; exact hp (m, o) (by simp)
      · exact absurd hm hmu

theorem LV.take_bare {wr : Nat → Bool} {deep : Bool} {Et : TypeId} {e : Ty} {c : LV} {xs : List e.den} {u : Upd} (ht : c.take Hm wr deep Et e = some (xs, u)) : ∀ q ∈ u, Bare q.2 := by
  cases c <;> simp only [LV.take] at ht
  case nil => simp at ht; obtain ⟨_, rfl⟩ := ht; simp
  case sl =>
    split at ht
    · cases ht
    · split at ht
      · simp at ht; obtain ⟨_, rfl⟩ := ht; simp
      · cases ht
  case ref n =>
    split at ht
    · split at ht
      · split at ht
        · split at ht
          · split at ht
            · simp at ht; obtain ⟨_, rfl⟩ := ht
              intro q hq; simp at hq; subst hq; intro b hb; cases hb
            · cases ht
          · simp at ht; obtain ⟨_, rfl⟩ := ht
            intro q hq; simp at hq; subst hq; intro b hb; simp at hb; subst hb; rfl
        · cases ht
      · cases ht
    · split at ht
      · cases ht
      · split at ht
        · simp at ht; obtain ⟨_, rfl⟩ := ht; simp
        · cases ht
    · cases ht
  case sub n lo hi =>
    split at ht
    · split at ht
      · cases ht
      · split at ht
        · split at ht
          · simp at ht; obtain ⟨_, rfl⟩ := ht
            intro q hq; simp at hq; subst hq; intro b hb; simp at hb; subst hb; rfl
          · cases ht
        · cases ht
    · split at ht
      · cases ht
      · split at ht
        · simp at ht; obtain ⟨_, rfl⟩ := ht; simp
        · cases ht
    · cases ht
  case dsl n ver i off E' e' ys =>
    split at ht
    · split at ht
      · cases ht
      · split at ht
        · split at ht
          · split at ht
            · simp at ht; obtain ⟨_, rfl⟩ := ht
              intro q hq; simp at hq; subst hq; intro b hb; simp at hb; subst hb; rfl
            · cases ht
          · cases ht
        · cases ht
    · cases ht
  all_goals cases ht

theorem Ty.take_bare [Laid] {wr : Nat → Bool} {deep : Bool} : ∀ {t : Ty} {cs r : List LV} {x : t.den} {u : Upd}, t.take Hm wr deep cs = some (x, r, u) → ∀ q ∈ u, Bare q.2
  | .int _, cs, r, x, u, h => by
    cases cs with
    | nil => simp [Ty.take] at h
    | cons c cs => cases c <;> simp [Ty.take] at h; obtain ⟨_, _, _, rfl⟩ := h; simp
  | .bool, cs, r, x, u, h => by
    cases cs with
    | nil => simp [Ty.take] at h
    | cons c cs => cases c <;> simp [Ty.take] at h; obtain ⟨_, _, rfl⟩ := h; simp
  | .str, cs, r, x, u, h => by
    cases cs with
    | nil => simp [Ty.take] at h
    | cons c cs => cases c <;> simp [Ty.take] at h; obtain ⟨_, _, rfl⟩ := h; simp
  | .pair a b, cs, r, x, u, h => by
    simp only [Ty.take] at h
    split at h
    · rename_i h1
      split at h
      · rename_i h2
        simp at h; obtain ⟨_, _, rfl⟩ := h
        intro q hq
        exact (List.mem_append.1 hq).elim (Ty.take_bare h1 q) (Ty.take_bare h2 q)
      · cases h
    · cases h
  | .slice _ _, cs, r, x, u, h => by
    cases cs with
    | nil => simp [Ty.take] at h
    | cons c cs =>
      simp only [Ty.take] at h
      split at h
      · rename_i h1; simp at h; obtain ⟨_, _, rfl⟩ := h; exact LV.take_bare h1
      · cases h

theorem partsOf_bare [Laid] {wr : Nat → Bool} {deep : Bool} {e : Ty} : ∀ {vs : List SV} {xs : List e.den} {u : Upd}, partsOf Hm wr e deep vs = some (xs, u) → ∀ q ∈ u, Bare q.2
  | [], xs, u, h => by simp [partsOf] at h; obtain ⟨_, rfl⟩ := h; simp
  | v :: vs, xs, u, h => by
    simp only [partsOf] at h
    split at h
    · split at h
      · rename_i h1
        split at h
        · rename_i h2
          simp at h; obtain ⟨_, rfl⟩ := h
          intro q hq
          exact (List.mem_append.1 hq).elim (Ty.take_bare h1 q) (partsOf_bare h2 q)
        · cases h
      · cases h
    · cases h

/-- names in rows and boxes behind what was given up -/
theorem upd_old [Laid] {u : Upd} (hu : ∀ q ∈ u, Bare q.2) (hold : ∀ m o, H m = some o → o.old nx n') : ∀ m o, H.upd u m = some o → o.old nx n' := fun m o hmo => by
  by_cases hm : m ∈ Upd.names u
  · have := Heap.upd_mem (p := Bare) (H := H) hu hm
    intro k hk
    rw [this o hmo] at hk; cases hk
  · rw [Heap.upd_other H u hm] at hmo; exact hold m o hmo

theorem partsOf_sound [Laid] {wr : Nat → Bool} {deep : Bool} {e : Ty} (hwr : ∀ n, wr n = true → G.nio ≤ n) (nx : Nat) : ∀ {vs : List SV} {vals : List Value} {xs : List e.den} {u : Upd} {H : Heap} {cx : Cx} {done : List Nat},
    RH G M H cx w → Ok Hm H done → partsOf Hm wr e deep vs = some (xs, u) → (∀ n ∈ Upd.names u, n ∉ done) → (Upd.names u).Nodup → All2 (VR cx w) vs vals →
    ∃ cx1 css bss, RH G M (H.upd u) cx1 w ∧ Tr nx nx cx w cx1 w ∧ Gv H cx (H.upd u) cx1 ∧ All2 (fun (v : Value) c => v.cells = c.toArray ∧ c.length = e.size) vals css ∧ All3 (El w cx1.S deep e) css xs bss ∧ Free G (H.upd u) cx1 w bss.flatten ∧ bss.flatten.Nodup ∧
      Came H cx (Upd.names u) bss.flatten ∧ Ok Hm (H.upd u) (done ++ Upd.names u)
  | [], vals, xs, u, H, cx, done, h, ho, hp, hd, hnd, hv => by
    cases vals with
    | cons _ _ => exact hv.elim
    | nil =>
      simp [partsOf] at hp; obtain ⟨rfl, rfl⟩ := hp
      exact ⟨cx, [], [], h, Tr.refl _ _ _, Gv.refl _ _, trivial, trivial, Free.nil, List.nodup_nil, fun b hb => (by cases hb), by simpa [Upd.names, Heap.upd] using ho⟩
  | v :: vs, vals, xs, u, H, cx, done, h, ho, hp, hd, hnd, hv => by
    cases vals with
    | nil => exact hv.elim
    | cons p vals =>
      simp only [partsOf] at hp
      split at hp
      · rename_i cs hcs
        split at hp
        · rename_i x u1 h1
          split at hp
          · rename_i ys u2 h2
            simp at hp; obtain ⟨rfl, rfl⟩ := hp
            have en : Upd.names (u1 ++ u2) = Upd.names u1 ++ Upd.names u2 := by simp [Upd.names]
            rw [en] at hd hnd
            rw [List.nodup_append] at hnd
            obtain ⟨us, huc, hus⟩ := cells_sound hv.1 hcs
            obtain ⟨cx1, v1, v2, tk, rfl, b1, b2, b3, b4, b5, b6, b7, b8⟩ := Ty.take_sound hwr nx h ho h1 (fun n hn => hd n (List.mem_append_left _ hn)) hnd.1 hus
            have hv2 : v2 = [] := by cases v2 with
              | nil => rfl
              | cons _ _ => exact b7.elim
            subst hv2
            simp only [List.append_nil] at huc
            obtain ⟨cx2, css, bss, c1, c2, c3, c4, c5, c6, c7, c8, c9⟩ := partsOf_sound hwr nx b1 b6 h2 (fun n hn => by
              rw [List.mem_append, not_or]; exact ⟨hd n (List.mem_append_right _ hn), fun hn' => hnd.2.2 n hn' n hn rfl⟩) hnd.2.1 (hv.2.mono fun s hs q hq => by
              cases s with
              | top | undef => exact hq
              | _ => exact VR.tr b2 (fun m _ => by omega) hq)
            rw [Heap.upd_append, en]
            refine ⟨cx2, v1 :: css, tk :: bss, c1, b2.trans c2 (Nat.le_refl _) (Nat.le_refl _), b3.trans c3, ⟨⟨huc, b4.el.size⟩, c4⟩, ⟨b4.el.mono c2.S (fun _ _ => rfl) (fun _ _ => rfl), c5⟩, ?_, ?_, ?_, by rw [← List.append_assoc]; exact c9⟩
            · rw [List.flatten_cons]; exact (b4.free.1.gv c3).append c6
            · rw [List.flatten_cons, List.nodup_append]
              exact ⟨b4.free.2, c7, fun p hp q hq e => b4.free.1.came c8 p hp (e ▸ hq)⟩
            · rw [List.flatten_cons]
              intro q hq
              rcases List.mem_append.1 hq with hq | hq
              · exact (b5.mono fun n hn => List.mem_append_left _ hn) q hq
              · exact ((c8.gv b3).mono fun n hn => List.mem_append_right _ hn) q hq
          · cases hp
        · cases hp
      · cases hp

/-- the parts of a slice literal, in order -/
theorem fill_parts (size : Nat) (hs : 0 < size) : ∀ (k : Nat) (ps : List (Nat × Value)) (css : List (List Value)) (cells : Array Value), (∀ (j : Nat) (p : Nat × Value), ps[j]? = some p → p.1 = k + j) → All2 (fun (p : Nat × Value) (c : List Value) => p.2.cells = c.toArray ∧ c.length = size) ps css → k * size + ps.length * size ≤ cells.size →
    Instr.fill (fun i => some (i * size, size)) cells ps = some (cells.toList.take (k * size) ++ css.flatten ++ cells.toList.drop (k * size + css.flatten.length)).toArray
  | k, [], css, cells, _, hc, hl => by
    cases css with
    | cons _ _ => exact hc.elim
    | nil => simp [Instr.fill]
  | k, (i, v) :: ps, css, cells, hi, hc, hl => by
    cases css with
    | nil => exact hc.elim
    | cons c css =>
      have hik : i = k := by have := hi 0 _ rfl; simpa using this
      subst hik
      obtain ⟨⟨hvc, hcl⟩, hrest⟩ := hc
      simp only [List.length_cons, Nat.succ_mul] at hl
      have hfold : ∀ (l : List Value) (off : Nat) (cs : Array Value) (st : Nat), off + st + l.length ≤ cs.size → (l.zipIdx st).foldl (fun cs (p : Value × Nat) => cs.setIfInBounds (off + p.2) p.1) cs = (cs.toList.take (off + st) ++ l ++ cs.toList.drop (off + st + l.length)).toArray := by
        intro l
        induction l with
        | nil => intro off cs st h; simp
        | cons a l ih =>
          intro off cs st h
          simp only [List.zipIdx_cons, List.foldl_cons, List.length_cons] at h ⊢
          rw [ih off _ (st + 1) (by simp; omega)]
          congr 1
          apply List.ext_getElem?
          intro j
          simp only [Array.toList_setIfInBounds]
          by_cases h1 : j < off + st
          · rw [List.append_assoc, List.append_assoc, List.getElem?_append_left (by simp; omega), List.getElem?_append_left (by simp; omega), List.getElem?_take, List.getElem?_take, if_pos (by omega), if_pos h1, List.getElem?_set_ne (by omega)]
          · by_cases h2 : j = off + st
            · subst h2
              rw [List.append_assoc, List.append_assoc, List.getElem?_append_left (by simp; omega), List.getElem?_take, if_pos (by omega), List.getElem?_set_self (by simp; omega), List.getElem?_append_right (by simp; omega)]
              simp
              rw [show off + st - min (off + st) cs.size = 0 by omega]; rfl
            · by_cases h3 : j < off + st + 1 + l.length
              · rw [List.append_assoc, List.append_assoc, List.getElem?_append_right (by simp; omega), List.getElem?_append_left (by simp; omega), List.getElem?_append_right (by simp; omega), List.getElem?_append_left (by simp; omega)]
                simp only [List.length_take, List.length_set, Array.length_toList]
                rw [show j - min (off + st) cs.size = (j - min (off + (st + 1)) cs.size) + 1 by omega]
                rfl
              · rw [List.getElem?_append_right (by simp; omega), List.getElem?_append_right (by simp; omega), List.getElem?_drop, List.getElem?_drop, List.getElem?_set_ne (by simp; omega)]
                simp only [List.length_append, List.length_take, List.length_set, Array.length_toList, List.length_cons]
                congr 1; omega
      have h0 := hfold c (i * size) cells 0 (by rw [hcl]; omega)
      simp only [Nat.add_zero] at h0
      have hz : v.cells.zipIdx.foldl (fun cs (p : Value × Nat) => cs.setIfInBounds (i * size + p.2) p.1) cells = (cells.toList.take (i * size) ++ c ++ cells.toList.drop (i * size + c.length)).toArray := by
        rw [hvc, ← Array.foldl_toList]
        simpa using h0
      simp only [Instr.fill]
      rw [if_neg (by rw [hvc]; simp [hcl]; omega)]
      rw [hz]
      have hsz : (cells.toList.take (i * size) ++ c ++ cells.toList.drop (i * size + c.length)).toArray.size = cells.size := by simp [hcl]; omega
      rw [fill_parts size hs (i + 1) ps css _ (fun j p hj => by have := hi (j + 1) p (by simpa using hj); omega) hrest (by rw [hsz, Nat.succ_mul]; omega)]
      congr 2
      simp only [List.toList_toArray, List.flatten_cons]
      have e1 : (i + 1) * size = i * size + c.length := by rw [hcl, Nat.succ_mul]
      have hp : (cells.toList.take (i * size) ++ c).length = i * size + c.length := by simp; omega
      rw [e1, List.take_append_of_le_length (by omega), List.take_of_length_le (by omega)]
      rw [show i * size + c.length + css.flatten.length = (cells.toList.take (i * size) ++ c).length + css.flatten.length by omega, List.drop_length_add_append, List.drop_drop]
      simp only [List.append_assoc]
      congr 3
      congr 1
      simp only [List.length_append, List.length_take, Array.length_toList]
      omega

theorem inOrder_spec : ∀ {k : Nat} {l : List (Nat × Operand)}, inOrder k l = true → ∀ (j : Nat) (p : Nat × Operand), l[j]? = some p → p.1 = k + j
  | k, (i, _) :: r, h, 0, p, hj => by simp [inOrder] at h; simp at hj; subst hj; simp; omega
  | k, (i, _) :: r, h, j + 1, p, hj => by
    simp [inOrder] at h
    have := inOrder_spec h.2 j p (by simpa using hj); omega

theorem buildSliceSV_is [Laid] (hE : TabOk P E) (hio : E.nio = G.nio) (h : RH G M H cx w) (hm : ∀ n o, Hm n = some o → H n = some o) {wr : Nat → Bool} {dst : Option Tmp} {t : TypeId} {n : Nat} {vs : List SV} {ps : List (Nat × Value)}
    (hidx : ∀ (j : Nat) (p : Nat × Value), ps[j]? = some p → p.1 = j) (hvals : All2 (VR cx w) vs (ps.map (·.2))) {R : Type} {r : R} {K : SV → Upd → Nat → Option R} (hh : buildSliceSV E Hm wr dst t n vs nx K = some r) :
    ∃ sv u, (∀ {R : Type} (K : SV → Upd → Nat → Option R), buildSliceSV E Hm wr dst t n vs nx K = K sv u (nx + 1)) ∧ ∀ {M' : Nat}, nx < M' → M ≤ M' → (∀ o, H nx ≠ some o) → (∀ m o, H m = some o → o.old nx (nx + 1)) → ∃ v w', (Instr.buildSlice t n ps.toArray).run P w = .ok v w' ∧ After G M' (H.upd u) nx (nx + 1) cx w sv v w' := by
  unfold buildSliceSV at hh
  split at hh
  · rename_i el ei e hel
    split at hh
    · rename_i hn
      split at hh
      · rename_i xs u hp
        split at hh
        · rename_i hc
          simp only [Bool.and_eq_true, decide_eq_true_eq] at hc
          obtain ⟨hne, hnd⟩ := okUpd_spec hc.1
          obtain ⟨hu, hei, hty, hb0⟩ := hE.slice hel
          obtain ⟨f, hf, hsz, hby, _, h4⟩ := hE.info hei
          obtain ⟨hs, z, hz, hzc, _⟩ := h4 e hty
          obtain ⟨cx1, css, bss, a1, a2, a3, a4, a5, a6, a7, a8, a9⟩ := partsOf_sound (G := G) (done := []) (wr := tk E wr) (fun m hm => by simp [tk, hio] at hm; exact hm.2) nx h ⟨fun n o _ hn => hm n o hn, fun n hn => (by cases hn)⟩ hp (fun _ _ => by simp) hnd hvals
          refine ⟨.lf (.ref nx), u ++ [(nx, some (.vec el e (deepAt E dst) 0 xs))], fun K => by simp only [buildSliceSV, hel]; rw [if_pos hn, hp]; simp only [hc, decide_true, Bool.and_self, if_true], ?_⟩
          intro M' hnx hN hnone hold
          have hpl : ps.length = n := by have := hvals.len; simp at this; omega
          have hlens := a5.len
          have hcl : css.length = n := by rw [← a4.len]; simp [hpl]
          have hfl : css.flatten.length = n * e.size := by
            have : ∀ (l : List Value) (l' : List (List Value)), All2 (fun (v : Value) c => v.cells = c.toArray ∧ c.length = e.size) l l' → l'.flatten.length = l'.length * e.size := by
              intro l l' hh
              induction l' generalizing l with
              | nil => simp
              | cons c l' ih =>
                cases l with
                | nil => exact hh.elim
                | cons a l => simp [ih l hh.2, hh.1.2, Nat.succ_mul, Nat.add_comm]
            rw [this _ _ a4, hcl]
          have hpa : All2 (fun (p : Nat × Value) (c : List Value) => p.2.cells = c.toArray ∧ c.length = e.size) ps css := by
            have : ∀ (l : List (Nat × Value)) (l' : List (List Value)), All2 (fun (v : Value) c => v.cells = c.toArray ∧ c.length = e.size) (l.map (·.2)) l' → All2 (fun (p : Nat × Value) (c : List Value) => p.2.cells = c.toArray ∧ c.length = e.size) l l' := by
              intro l
              induction l with
              | nil => intro l' hh; cases l' with
                | nil => trivial
                | cons _ _ => exact hh.elim
              | cons a l ih => intro l' hh; cases l' with
                | nil => exact hh.elim
                | cons c l' => exact ⟨hh.1, ih l' hh.2⟩
            exact this _ _ a4
          have hrun : (Instr.buildSlice t n ps.toArray).run P w = .ok (.slice (some ⟨w.heap.size, 0, none⟩) n n) (w.alloc (.cells css.flatten.toArray el)) := by
            have hcells : ∀ (zc : Array Value), (zc = #[] ∧ n * e.size = 0 ∨ True) → Instr.fill (fun i => some (i * e.size, e.size)) ((Array.range (n * e.size)).map (zc[· % zc.size]!)) ps = some css.flatten.toArray := fun zc _ => by
              rw [fill_parts e.size e.size_pos 0 ps css _ (fun j p hj => by rw [hidx j p hj]; omega) hpa (by simp [hpl])]
              simp [hfl]
            have hbig : ¬ (n * e.size > 2 ^ 24) := by rw [hs]; omega
            simp only [Instr.buildSlice, Sem.run_bind, run_underlying hu, Result.andThen_ok, hE.size hei, ← hs, hbig, if_false]
            have hzv : (zeroValue el).run P w = .ok z w := by simp [zeroValue, typeInfo, hf, hz]
            by_cases h0 : n * e.size = 0
            · simp only [h0, if_true, Sem.run_pure, Result.andThen_ok, List.toList_toArray]
              have hn0 : n = 0 := by
                rcases Nat.mul_eq_zero.1 h0 with h | h
                · exact h
                · have := e.size_pos; omega
              have hps : ps = [] := List.eq_nil_of_length_eq_zero (by omega)
              have hcf : css.flatten = [] := List.eq_nil_of_length_eq_zero (by omega)
              rw [hps, hcf]
              simp [newRow, Instr.fill, Array.range_zero']
            · simp only [h0, if_false, Sem.run_bind, hzv, Sem.run_pure, Result.andThen_ok, List.toList_toArray]
              have := hcells z.cells (.inr trivial)
              simp [this, newRow]
          refine ⟨_, _, hrun, ?_⟩
          rw [Heap.upd_append]
          have hnu : nx ∉ Upd.names u := fun hmem => hne nx hmem rfl
          have hdeep : ∀ c x bs, El w cx1.S (deepAt E dst && !e.flat) e c x bs → El w cx1.S (deepAt E dst) e c x bs := fun c x bs hE' => by
            unfold El at hE' ⊢
            cases hd : deepAt E dst with
            | false => simpa [hd] using hE'
            | true =>
              simp only [if_true]
              cases hfe : e.flat with
              | false => simpa [hfe, hd] using hE'
              | true => simp [hfe] at hE'; rw [hE'.2]; exact hE'.1.flat hfe
          have hmx : n ≤ maxLen := by
            have := hc.2
            have hei1 : 1 ≤ ei.size := by rw [← hs]; exact e.size_pos
            have : n ≤ n * ei.size := Nat.le_mul_of_pos_right _ hei1
            unfold maxLen; omega
          obtain ⟨cx2, b1, b2, b3⟩ := new_row (M' := M') (w' := w.alloc (.cells css.flatten.toArray el)) a1 hnx hN (fun o => by rw [Heap.upd_other H u hnu]; exact hnone o) (upd_old (partsOf_bare hp) hold) a6 (d := deepAt E dst) (v := .slice (some ⟨w.heap.size, 0, none⟩) n n) (xs := xs) (Et := el) (foot := w.heap.size :: bss.flatten)
            ⟨rfl, rfl, rfl, by simp, fun b hb _ => heap_alloc_old w _ b hb⟩ (fun b hb => by
              rcases List.mem_cons.1 hb with rfl | hb
              · exact .inr ⟨Nat.le_refl _, by simp⟩
              · exact .inl hb) (by
              rw [List.nodup_cons]
              exact ⟨fun hb => by have := (a6 _ hb).2.1; omega, a7⟩) (.inr ⟨w.heap.size, n, css.flatten.toArray, css, bss, by rw [← hlens.1, hcl], heap_alloc_new w _, by rw [← hlens.1, hcl]; exact Nat.le_refl _, hmx, by simp [hfl], by
                rw [← hlens.1, hcl, List.take_of_length_le (by simp [hfl])], rfl, a5.mono fun c x bs hbs hE' => (hdeep c x bs hE').mono (fun _ hb => hb) (fun b hb => heap_alloc_old w _ b (a1.ss b hb)) fun b hb => heap_alloc_old w _ b (a6 b (List.mem_flatten.2 ⟨bs, hbs, hb⟩)).2.1⟩)
          exact ⟨cx2, b1, b2, a2.trans b3 (Nat.le_refl _) (Nat.le_succ _)⟩
        · cases hh
      · cases hh
    · cases hh
  · cases hh
end
end Go.Sh

namespace Go.Sh
open Go Go.RowKit

/-! ## Append -/
section
variable {cx cx' : Cx} {w w' : World} {G : Base} {M M' nx n' : Nat} {H H' Hm : Heap} {P : Program} {E : Env}

/-- a slice's cells are these, now and behind a draw -/
def Cells (P : Program) (w : World) (size n : Nat) (v : Value) (cs : List Value) : Prop :=
  (∃ A c, v = .slice A n c) ∧ (Builtin.firstCells size n v).run P w = .ok cs.toArray w ∧ (Builtin.firstCells size n v).run P w.drew = .ok cs.toArray w.drew

theorem Cells.of {size n : Nat} {A : Option Addr} {c : Nat} {cs : List Value} (hl : cs.length = n * size) (h : 0 < n * size → ∃ a, A = some a ∧ ∀ j u, cs[j]? = some u → w.cell? (a.add j) = some u) : Cells P w size n (.slice A n c) cs := by
  refine ⟨⟨A, c, rfl⟩, ?_⟩
  cases A with
  | none =>
    have h0 : n * size = 0 := by
      rcases Nat.eq_zero_or_pos (n * size) with h0 | h0
      · exact h0
      · obtain ⟨a, ha, _⟩ := h h0; cases ha
    have : cs = [] := List.eq_nil_of_length_eq_zero (by omega)
    subst this
    exact ⟨run_firstCells_none w _ _ _ _, run_firstCells_none w.drew _ _ _ _⟩
  | some a =>
    have h' : ∀ j u, cs[j]? = some u → w.cell? (a.add j) = some u := fun j u hu => by
      have hj : j < cs.length := (List.getElem?_eq_some_iff.1 hu).1
      obtain ⟨a', ha, hh⟩ := h (by omega)
      cases ha; exact hh j u hu
    exact ⟨run_firstCells_some w size n a n c cs hl h', run_firstCells_some w.drew size n a n c cs hl (by simpa using h')⟩

theorem run_app_grow {t ty e : TypeId} {i : TypeInfo} {z : Value} (ht : P.underlying t = some (.slice e)) (hi : P.info? e = some i) (hz : i.zero = some z) {k m cap : Nat} {A : Option Addr} {xv : Value} {olds news : List Value}
    (ho : Cells P w i.size k (.slice A k cap) olds) (hn : Cells P w i.size m xv news) (hg : cap < k + m) (h63 : ((k + m : Nat) : Int) ≤ 9223372036854775807) (hfit : (k + m) * i.bytes ≤ 140737488355328) :
    (Builtin.append_ #[t, t] ty #[.slice A k cap, xv]).run P w =
      .ok (.slice (some ⟨w.heap.size, 0, none⟩) (k + m) (grownCap w (k + m) cap e)) (w.drew.alloc (.cells (olds ++ news ++ (Builtin.zeroCells z.cells (grownCap w (k + m) cap e - (k + m))).toList).toArray e)) := by
  obtain ⟨⟨A', c, rfl⟩, hn1, hn2⟩ := hn
  obtain ⟨_, ho1, ho2⟩ := ho
  have hn' : ¬ (k + m ≤ cap) := by omega
  have h63' : ¬ (9223372036854775807 < ((k : Int) + (m : Int))) := by omega
  have h48' : ¬ (281474976710656 < Builtin.nextslicecap (k + m) cap * i.bytes) := by have := growslice_fits hg hfit; omega
  simp [Builtin.append_, run_underlying ht, sizeOf, typeInfo, zeroValue, hi, hz, Builtin.lenOf, hn', h63', h48', Question.forced, hn2, ho2, newRow, grownCap]
  congr 2
  apply Array.ext'
  simp [List.append_assoc]

theorem run_app_room {t ty e : TypeId} {i : TypeInfo} (ht : P.underlying t = some (.slice e)) (hi : P.info? e = some i) {k m cap g : Nat} {xv : Value} {news : List Value} {cur : Array Value}
    (hn : Cells P w i.size m xv news) (hl : news.length = m * i.size) (h1 : ∀ u ∈ news, u.oneCell' = true) (hg : w.heap[g]? = some (.cells cur e (0, 0))) (hroom : k + m ≤ cap) (hcur : cur.size = cap * i.size) :
    (Builtin.append_ #[t, t] ty #[.slice (some ⟨g, 0, none⟩) k cap, xv]).run P w = .ok (.slice (some ⟨g, 0, none⟩) (k + m) cap) (w.setRow g (cur.toList.take (k * i.size) ++ news ++ cur.toList.drop (k * i.size + news.length)).toArray) := by
  obtain ⟨⟨A', c, rfl⟩, hn1, _⟩ := hn
  have hfit : k * i.size + news.length ≤ cur.size := by rw [hl, hcur, ← Nat.add_mul]; exact Nat.mul_le_mul_right _ hroom
  have hst := run_storeCells_at P g (k * i.size) e news 0 cur w hg (by simpa using hfit) h1
  simp only [Nat.add_zero] at hst
  simp [Builtin.append_, run_underlying ht, sizeOf, typeInfo, hi, Builtin.lenOf, hroom, hn1, Addr.add_lit, hst]

theorem run_app_none {t ty e : TypeId} {i : TypeInfo} (ht : P.underlying t = some (.slice e)) (hi : P.info? e = some i) {A : Option Addr} {xv : Value} {news : List Value}
    (hn : Cells P w i.size 0 xv news) (hl : news = []) : (Builtin.append_ #[t, t] ty #[.slice A 0 0, xv]).run P w = .ok (.slice A 0 0) w := by
  obtain ⟨⟨A', c, rfl⟩, hn1, _⟩ := hn
  subst hl
  cases A with
  | none => simp [Builtin.append_, run_underlying ht, sizeOf, typeInfo, hi, Builtin.lenOf, hn1]
  | some a => simp [Builtin.append_, run_underlying ht, sizeOf, typeInfo, hi, Builtin.lenOf, hn1, storeCells]

theorem drew_alloc_stays (w : World) (o : Obj) (fs : List Nat) : Stays w (w.drew.alloc o) fs := ⟨rfl, rfl, rfl, by simp, fun b hb _ => heap_alloc_old w.drew o b hb⟩

theorem flatten_len {k : Nat} : ∀ {css : List (List Value)}, (∀ c ∈ css, c.length = k) → css.flatten.length = css.length * k
  | [], _ => by simp
  | c :: css, h => by simp [flatten_len fun c hc => h c (List.mem_cons_of_mem _ hc), h c (by simp), Nat.succ_mul, Nat.add_comm]

theorem All3.lens {α : Type} {r : List Value → α → List Nat → Prop} {k : Nat} (hr : ∀ c x b, r c x b → c.length = k) : ∀ {css : List (List Value)} {xs : List α} {bss : List (List Nat)}, All3 r css xs bss → ∀ c ∈ css, c.length = k
  | _ :: _, _ :: _, _ :: _, h, c, hc => by
    rcases List.mem_cons.1 hc with rfl | hc
    · exact hr _ _ _ h.1
    · exact All3.lens hr h.2 c hc

theorem All3.append {α β γ : Type} {r : α → β → γ → Prop} : ∀ {x x' : List α} {y y' : List β} {z z' : List γ}, All3 r x y z → All3 r x' y' z' → All3 r (x ++ x') (y ++ y') (z ++ z')
  | [], _, [], _, [], _, _, h' => h'
  | _ :: _, _, _ :: _, _, _ :: _, _, h, h' => ⟨h.1, All3.append h.2 h'⟩

theorem All3.take {α β γ : Type} {r : α → β → γ → Prop} : ∀ {x : List α} {y : List β} {z : List γ} (n : Nat), All3 r x y z → All3 r (x.take n) (y.take n) (z.take n)
  | [], [], [], _, _ => by simp [All3]
  | _ :: _, _ :: _, _ :: _, 0, _ => by simp [All3]
  | _ :: _, _ :: _, _ :: _, n + 1, h => ⟨h.1, All3.take n h.2⟩

theorem All3.drop {α β γ : Type} {r : α → β → γ → Prop} : ∀ {x : List α} {y : List β} {z : List γ} (n : Nat), All3 r x y z → All3 r (x.drop n) (y.drop n) (z.drop n)
  | [], [], [], _, _ => by simp [All3]
  | _ :: _, _ :: _, _ :: _, 0, h => h
  | _ :: _, _ :: _, _ :: _, n + 1, h => All3.drop n h.2

/-- the elements of a row that was given up, those of the source behind them: a new row -/
theorem append_core [Laid] (hE : TabOk P E) {t ty el : TypeId} {ei : TI} {e : Ty} (hel : elemOf E t = some (el, ei, e)) (h : RH G M H cx w) (hnx : nx < M') (hN : M ≤ M') (hnone : ∀ o, H nx ≠ some o) (hold : ∀ m o, H m = some o → o.old nx (nx + 1))
    {d : Bool} {dv xv : Value} {xs ys : List e.den} {cssK css : List (List Value)} {bssK bss : List (List Nat)}
    (hK : All3 (El w cx.S d e) cssK xs bssK) (hS : All3 (El w cx.S d e) css ys bss) (hfree : Free G H cx w ((bssK ++ bss).flatten)) (hnd : ((bssK ++ bss).flatten).Nodup)
    (hx : Cells P w e.size ys.length xv css.flatten) (h1 : ∀ u ∈ css.flatten, u.oneCell' = true) (hfits : N.fits xs ys ei.bytes)
    (hd : (xs = [] ∧ ∃ A, dv = .slice A 0 0) ∨ ∃ g cap cur, dv = .slice (some ⟨g, 0, none⟩) xs.length cap ∧ w.heap[g]? = some (.cells cur el (0, 0)) ∧ xs.length ≤ cap ∧ cap ≤ maxLen ∧ cur.size = cap * e.size ∧ cur.toList.take (xs.length * e.size) = cssK.flatten ∧ Free G H cx w [g] ∧ g ∉ (bssK ++ bss).flatten) :
    ∃ v w', (Builtin.append_ #[t, t] ty #[dv, xv]).run P w = .ok v w' ∧ After G M' (fun m => if m = nx then some (.vec el e d 0 (N.app xs ys)) else H m) nx (nx + 1) cx w (.lf (.ref nx)) v w' := by
  obtain ⟨hu, hei, hty, hb0⟩ := hE.slice hel
  obtain ⟨f, hf, hsz, hby, _, h4⟩ := hE.info hei
  obtain ⟨hs, z, hz, hzc, _⟩ := h4 e hty
  have hfs : f.size = e.size := by rw [hsz, hs]
  have hlK := All3.lens (fun c x b hh => El.size hh) hK
  have hlS := All3.lens (fun c x b hh => El.size hh) hS
  have hfK := flatten_len hlK
  have hfS := flatten_len hlS
  rw [hK.len.1] at hfK
  rw [hS.len.1] at hfS
  have hfits' : (xs.length + ys.length) * ei.bytes ≤ 140737488355328 := hfits
  have hsmall : xs.length + ys.length ≤ 140737488355328 := by
    have : xs.length + ys.length ≤ (xs.length + ys.length) * ei.bytes := Nat.le_mul_of_pos_right _ (by omega)
    omega
  have hall := hK.append hS
  rw [← hfs] at hx
  -- over a new block
  have fresh : ∀ (cap : Nat) (A : Option Addr), cap < xs.length + ys.length → Cells P w f.size xs.length (.slice A xs.length cap) cssK.flatten →
      ∃ v w', (Builtin.append_ #[t, t] ty #[.slice A xs.length cap, xv]).run P w = .ok v w' ∧ After G M' (fun m => if m = nx then some (.vec el e d 0 (N.app xs ys)) else H m) nx (nx + 1) cx w (.lf (.ref nx)) v w' := fun cap A hcap hc => by
    have hr := run_app_grow (ty := ty) hu hf hz hc hx hcap (by omega) (by rw [hby]; exact hfits')
    have hge := grownCap_ge w (xs.length + ys.length) cap el
    have hcm : grownCap w (xs.length + ys.length) cap el ≤ maxLen := grownCap_le_maxLen w _ _ _ (by unfold maxLen; omega)
    have hzl : z.cells.size = e.size := by have := congrArg List.length hzc; simpa [zv_size] using this
    refine ⟨_, _, hr, ?_⟩
    have hst : Stays w (w.drew.alloc (.cells (cssK.flatten ++ css.flatten ++ (Builtin.zeroCells z.cells (grownCap w (xs.length + ys.length) cap el - (xs.length + ys.length))).toList).toArray el)) ((bssK ++ bss).flatten) := drew_alloc_stays _ _ _
    refine new_row h hnx hN hnone hold hfree hst (foot := w.heap.size :: (bssK ++ bss).flatten) (fun b hb => ?_) ?_ (.inr ⟨w.heap.size, _, _, cssK ++ css, bssK ++ bss, ?_, heap_alloc_new w.drew _, ?_, hcm, ?_, ?_, rfl, ?_⟩)
    · rcases List.mem_cons.1 hb with rfl | hb
      · exact .inr ⟨Nat.le_refl _, by simp⟩
      · exact .inl hb
    · rw [List.nodup_cons]; exact ⟨fun hb => by have := (hfree _ hb).2.1; omega, hnd⟩
    · simp [N.app]
    · simpa [N.app] using hge
    · simp only [List.size_toArray, List.length_append, hfK, hfS, Array.length_toList, size_zeroCells, hzl, ← Nat.add_mul]
      congr 1; omega
    · have hlen : (N.app xs ys).length * e.size = (cssK.flatten ++ css.flatten).length := by rw [List.length_append, hfK, hfS, ← Nat.add_mul]; simp [N.app]
      rw [hlen, List.flatten_append, List.toList_toArray]
      exact List.take_left
    · exact (hall.mono fun c x bs hbs hE' => hE'.mono (fun _ hb => hb) (fun b hb => heap_alloc_old w.drew _ b (h.ss b hb)) fun b hb => heap_alloc_old w.drew _ b (hfree b (List.mem_flatten.2 ⟨bs, hbs, hb⟩)).2.1)
  rcases hd with ⟨rfl, A, rfl⟩ | ⟨g, cap, cur, rfl, hg, hkc, hcm, hcs, htk, hgf, hgn⟩
  · have hcK : cssK = [] := List.eq_nil_of_length_eq_zero (by have := hK.len.1; simpa using this)
    have hbK : bssK = [] := List.eq_nil_of_length_eq_zero (by have := hK.len.2; simpa using this)
    subst hcK; subst hbK
    by_cases hy : ys = []
    · subst hy
      have hc0 : css = [] := List.eq_nil_of_length_eq_zero (by have := hS.len.1; simpa using this)
      have hb0 : bss = [] := List.eq_nil_of_length_eq_zero (by have := hS.len.2; simpa using this)
      subst hc0; subst hb0
      refine ⟨_, _, run_app_none (ty := ty) hu hf hx rfl, ?_⟩
      exact new_row h hnx hN hnone hold (fs := []) Free.nil ⟨rfl, rfl, rfl, Nat.le_refl _, fun _ _ _ => rfl⟩ (foot := []) (fun b hb => by cases hb) List.nodup_nil (.inl ⟨rfl, ⟨A, rfl⟩, rfl⟩)
    · have hpos : 0 < ys.length := List.length_pos_iff.2 hy
      have := fresh 0 A (by simpa using hpos) (Cells.of (by simp) (by simp))
      simpa using this
  · by_cases hroom : xs.length + ys.length ≤ cap
    · have hr := run_app_room (ty := ty) hu hf hx (by rw [hfS, hfs]) h1 hg hroom (by rw [hcs, hfs])
      refine ⟨_, _, hr, ?_⟩
      rw [hfs]
      refine new_row h hnx hN hnone hold (fs := g :: (bssK ++ bss).flatten) (fun b hb => by
          rcases List.mem_cons.1 hb with rfl | hb
          · exact hgf b (by simp)
          · exact hfree b hb) (setRow_stays w g _ _ (by simp)) (foot := g :: (bssK ++ bss).flatten) (fun b hb => .inl hb) (by rw [List.nodup_cons]; exact ⟨hgn, hnd⟩)
          (.inr ⟨g, cap, _, cssK ++ css, bssK ++ bss, by simp [N.app], setRow_heap w g cur _ el (0, 0) hg, by simpa [N.app] using hroom, hcm, ?_, ?_, rfl, ?_⟩)
      · have : (xs.length + ys.length) * e.size ≤ cap * e.size := Nat.mul_le_mul_right _ hroom
        rw [Nat.add_mul] at this
        have hcl : cur.toList.length = cap * e.size := by simp [hcs]
        simp only [List.size_toArray, List.length_append, List.length_take, List.length_drop, hcl, hfS]
        omega
      · have hle : xs.length * e.size ≤ cur.toList.length := by simp [hcs]; exact Nat.mul_le_mul_right _ hkc
        have hlen : (N.app xs ys).length * e.size = (cssK.flatten ++ css.flatten).length := by rw [List.length_append, hfK, hfS, ← Nat.add_mul]; simp [N.app]
        rw [hlen, List.flatten_append, List.toList_toArray, htk]
        exact List.take_left
      · exact hall.mono fun c x bs hbs hE' => hE'.mono (fun _ hb => hb) (fun b hb => setRow_other w g b _ fun eq => (hgf g (by simp)).2.2.1 (eq ▸ hb)) fun b hb => setRow_other w g b _ fun eq => hgn (eq ▸ List.mem_flatten.2 ⟨bs, hbs, hb⟩)
    · refine fresh cap _ (by omega) (Cells.of (by rw [hfK, hfs]) fun _ => ⟨_, rfl, fun j u hu => ?_⟩)
      have hadd : (⟨g, 0, none⟩ : Addr).add j = ⟨g, j, none⟩ := by unfold Addr.add; split <;> simp_all
      rw [hadd]
      have : w.cell? ⟨g, j, none⟩ = cur[j]? := by simp [World.cell?, hg]
      rw [this]
      rw [← htk, List.getElem?_take] at hu
      split at hu
      · simpa using hu
      · cases hu
end
end Go.Sh

namespace Go.Sh
open Go Go.RowKit

section
variable {cx cx' : Cx} {w w' : World} {G : Base} {M M' nx n' : Nat} {H H' Hm : Heap} {P : Program} {E : Env}

theorem flatten_at [Laid] {k : Nat} (hk : 0 < k) (css : List (List Value)) (hl : ∀ c ∈ css, c.length = k) (j : Nat) (u : Value) (hu : css.flatten[j]? = some u) : ∃ c, css[j / k]? = some c ∧ c[j % k]? = some u := by
  have hj : j < css.length * k := by
    have := (List.getElem?_eq_some_iff.1 hu).1
    rw [flatten_len hl] at this; exact this
  have hd : j / k < css.length := Nat.div_lt_of_lt_mul (by rw [Nat.mul_comm]; exact hj)
  have hm : j % k < (css[j / k]).length := by rw [hl _ (List.getElem_mem _)]; exact Nat.mod_lt _ hk
  refine ⟨css[j / k], List.getElem?_eq_getElem hd, ?_⟩
  have := flatten_get hk css hl (j / k) _ (List.getElem?_eq_getElem hd) (j % k) _ (List.getElem?_eq_getElem hm)
  rw [Nat.mul_comm, Nat.div_add_mod] at this
  rw [List.getElem?_eq_getElem hm, ← this, hu]

theorem All3_of {α : Type} {r : List Value → α → List Nat → Prop} : ∀ {css : List (List Value)} {xs : List α}, css.length = xs.length → (∀ i (h1 : i < css.length) (h2 : i < xs.length), r css[i] xs[i] []) → All3 r css xs (List.replicate xs.length [])
  | [], [], _, _ => trivial
  | c :: css, x :: xs, hl, h => ⟨h 0 (by simp) (by simp), All3_of (by simpa using hl) fun i h1 h2 => h (i + 1) (by simpa using h1) (by simpa using h2)⟩

/-- a slice that reads: its cells, element by element -/
theorem src_of_rd [Laid] {F : Nat → Prop} {Et : TypeId} {e : Ty} {v : Value} {ys : List e.den} (h : Rd w F (.slice Et e) [v] ys) :
    ∃ css, All3 (fun (c : List Value) (y : e.den) (b : List Nat) => Rd w F e c y ∧ b = []) css ys (List.replicate ys.length ([] : List Nat)) ∧ Cells P w e.size ys.length v css.flatten := by
  obtain ⟨A, cap, e1, hcap, hel⟩ := h
  simp at e1; subst e1
  have hch : ∀ i : Fin ys.length, ∃ b o ci, A = some ⟨b, o, none⟩ ∧ F b ∧ (∀ j u, ci[j]? = some u → w.cell? ⟨b, o + i.1 * e.size + j, none⟩ = some u) ∧ Rd w F e ci ys[i.1] := fun i => hel i.1 i.2
  let css : List (List Value) := List.ofFn fun i : Fin ys.length => Classical.choose (Classical.choose_spec (Classical.choose_spec (hch i)))
  have hlen : css.length = ys.length := List.length_ofFn
  have hspec : ∀ i (h1 : i < css.length), ∃ b o, A = some ⟨b, o, none⟩ ∧ F b ∧ (∀ j u, (css[i])[j]? = some u → w.cell? ⟨b, o + i * e.size + j, none⟩ = some u) ∧ Rd w F e css[i] (ys[i]'(by omega)) := fun i h1 => by
    have hsp := Classical.choose_spec (Classical.choose_spec (Classical.choose_spec (hch ⟨i, by omega⟩)))
    have : css[i] = Classical.choose (Classical.choose_spec (Classical.choose_spec (hch ⟨i, by omega⟩))) := List.getElem_ofFn _
    rw [this]
    exact ⟨_, _, hsp⟩
  have hl : ∀ c ∈ css, c.length = e.size := fun c hc => by
    obtain ⟨i, hi, rfl⟩ := List.getElem_of_mem hc
    obtain ⟨_, _, _, _, _, hr⟩ := hspec i hi
    exact hr.size
  refine ⟨css, All3_of hlen fun i h1 h2 => ?_, Cells.of (by rw [flatten_len hl, hlen]) fun hpos => ?_⟩
  · obtain ⟨_, _, _, _, _, hr⟩ := hspec i h1; exact ⟨hr, rfl⟩
  · have h0 : 0 < ys.length := by
      rcases Nat.eq_zero_or_pos ys.length with h0 | h0
      · rw [h0] at hpos; simp at hpos
      · exact h0
    obtain ⟨b, o, rfl, _⟩ := hspec 0 (by omega)
    refine ⟨_, rfl, fun j u hu => ?_⟩
    obtain ⟨c, hc, hcu⟩ := flatten_at e.size_pos css hl j u hu
    have hlt : j / e.size < css.length := (List.getElem?_eq_some_iff.1 hc).1
    obtain ⟨b', o', e2, _, hcell, _⟩ := hspec (j / e.size) hlt
    simp only [Option.some.injEq, Addr.mk.injEq, and_true] at e2
    obtain ⟨rfl, rfl⟩ := e2
    have hc' : css[j / e.size] = c := by rw [List.getElem?_eq_getElem hlt] at hc; simpa using hc
    have := hcell (j % e.size) u (by rw [hc']; exact hcu)
    have hadd : (⟨b, o, none⟩ : Addr).add j = ⟨b, o + j, none⟩ := by unfold Addr.add; split <;> simp_all
    rw [hadd]
    rw [← this]; congr 2
    have := Nat.div_add_mod j e.size
    rw [Nat.mul_comm] at this; omega

theorem rep_flatten (n : Nat) : (List.replicate n ([] : List Nat)).flatten = [] := by simp

/-- a row of the call's own: its cells, element by element; a part of it -/
theorem src_of_row [Laid] {Et : TypeId} {e : Ty} {El' : List Value → e.den → List Nat → Prop} {v : Value} {xs : List e.den} {foot : List Nat} (h : Row1 w Et e.size El' v xs foot) (hlen : ∀ c x b, El' c x b → c.length = e.size) :
    ∃ css bss, All3 El' css xs bss ∧ (∀ b ∈ bss.flatten, b ∈ foot) ∧ (foot.Nodup → bss.flatten.Nodup) ∧
      ∀ lo hi A' c', lo ≤ hi → hi ≤ xs.length → (lo < hi → ∃ g o, (∃ cap, v = .slice (some ⟨g, o, none⟩) xs.length cap) ∧ A' = some ⟨g, o + lo * e.size, none⟩) → Cells P w e.size (hi - lo) (.slice A' (hi - lo) c') ((css.take hi).drop lo).flatten := by
  rcases h with ⟨rfl, ⟨A, rfl⟩, rfl⟩ | ⟨g, cap, cur, css, bss, rfl, h2, h3, h4, h5, h6, h7, h8⟩
  · refine ⟨[], [], trivial, (fun b hb => by simp at hb), (fun _ => List.nodup_nil), (fun lo hi A' c' h1 h2 h3 => ?_)⟩
    simp at h2; subst h2
    obtain rfl : lo = 0 := by omega
    exact Cells.of (by simp) (by simp)
  · have hl := All3.lens hlen h8
    refine ⟨css, bss, h8, fun b hb => by rw [h7]; exact List.mem_cons_of_mem _ hb, fun hn => by rw [h7, List.nodup_cons] at hn; exact hn.2, fun lo hi A' c' h1 hhi hA => ?_⟩
    have hl' : ∀ c ∈ (css.take hi).drop lo, c.length = e.size := fun c hc => hl c (List.mem_of_mem_take (List.mem_of_mem_drop hc))
    have hln : ((css.take hi).drop lo).length = hi - lo := by simp [h8.len.1]; omega
    refine Cells.of (by rw [flatten_len hl', hln]) fun hpos => ?_
    have hlt : lo < hi := by
      rcases Nat.lt_or_ge lo hi with h | h
      · exact h
      · rw [Nat.sub_eq_zero_of_le h] at hpos; simp at hpos
    obtain ⟨g', o, ⟨cap', e1⟩, rfl⟩ := hA hlt
    simp only [Value.slice.injEq, Option.some.injEq, Addr.mk.injEq, and_true] at e1
    obtain ⟨⟨rfl, rfl⟩, _, rfl⟩ := e1
    refine ⟨_, rfl, fun j u hu => ?_⟩
    obtain ⟨c, hc, hcu⟩ := flatten_at e.size_pos _ hl' j u hu
    rw [List.getElem?_drop, List.getElem?_take] at hc
    split at hc
    · have := flatten_get e.size_pos css hl _ c hc _ u hcu
      rw [← h6, List.getElem?_take] at this
      split at this
      · have hadd : (⟨g, 0 + lo * e.size, none⟩ : Addr).add j = ⟨g, lo * e.size + j, none⟩ := by unfold Addr.add; split <;> simp_all
        rw [hadd]
        have hc2 : w.cell? ⟨g, lo * e.size + j, none⟩ = cur[lo * e.size + j]? := by simp [World.cell?, h2]
        rw [hc2]
        have hd := Nat.div_add_mod j e.size
        rw [Nat.mul_comm] at hd
        rw [Nat.add_mul] at this
        rw [show lo * e.size + j = lo * e.size + j / e.size * e.size + j % e.size by omega]
        simpa using this
      · cases this
    · cases hc

theorem All3.bare {e : Ty} {S : Nat → Prop} : ∀ {css : List (List Value)} {xs : List e.den} {bss : List (List Nat)}, All3 (El w S false e) css xs bss →
    All3 (fun (c : List Value) (y : e.den) (b : List Nat) => Rd w S e c y ∧ b = []) css xs (List.replicate xs.length ([] : List Nat))
  | [], [], [], _ => trivial
  | c :: css, x :: xs, b :: bss, h => ⟨⟨by have := h.1; unfold El at this; simp at this; exact this.1, rfl⟩, All3.bare h.2⟩

/-- what an append takes from its source -/
structure Src [Laid] (P : Program) (G : Base) (M nx : Nat) (H : Heap) (cx : Cx) (w : World) (d : Bool) (e : Ty) (xv : Value) (ys : List e.den) (u : Upd) (Hm : Heap) : Prop where
  ex : ∃ cx1 css bss, RH G M (H.upd u) cx1 w ∧ Tr nx nx cx w cx1 w ∧ Gv H cx (H.upd u) cx1 ∧ All3 (El w cx1.S d e) css ys bss ∧ Free G (H.upd u) cx1 w bss.flatten ∧ bss.flatten.Nodup ∧ Came H cx (Upd.names u) bss.flatten ∧
    Cells P w e.size ys.length xv css.flatten ∧ (∀ m, m ∉ Upd.names u → cx1.μ m = cx.μ m)
  bare : ∀ q ∈ u, Bare q.2
  nm : ∀ m ∈ Upd.names u, ∃ o, Hm m = some o

theorem El.of_rd {d : Bool} {e : Ty} {c : List Value} {x : e.den} {S : Nat → Prop} (h : Rd w S e c x) (hd : d = false ∨ e.flat = true) : El w S d e c x [] := by
  unfold El
  rcases hd with rfl | hf
  · simpa using h
  · split
    · exact h.flat hf
    · exact ⟨h, rfl⟩

theorem El.of_flat [Laid] {d : Bool} {e : Ty} {c : List Value} {x : e.den} {F S : Nat → Prop} (h : Rd w F e c x) (hf : e.flat = true) : El w S d e c x [] :=
  El.of_rd ((h.flat hf).rd fun b hb => by cases hb) (.inr hf)

theorem srcOf_sound [Laid] (h : RH G M H cx w) (hm : ∀ n o, Hm n = some o → H n = some o) {wr : Nat → Bool} (hwr : ∀ n, wr n = true → G.nio ≤ n) {el : TypeId} {e : Ty} {d : Bool} {x : LV} {xv : Value} {ys : List e.den} {u : Upd}
    (hs : srcOf Hm wr el e (d && !e.flat) x = some (ys, u)) (hx : VL cx w x xv) (nx : Nat) : Src P G M nx H cx w d e xv ys u Hm := by
  unfold srcOf at hs
  split at hs
  · rename_i hf
    split at hs
    · rename_i zs hr
      simp at hs; obtain ⟨rfl, rfl⟩ := hs
      obtain ⟨css, h1, h2⟩ := src_of_rd (P := P) (VL.rows h hm hx hr)
      refine ⟨⟨cx, css, _, h, Tr.refl _ _ _, Gv.refl _ _, h1.mono fun c y b _ hh => ?_, by rw [rep_flatten]; exact Free.nil, by rw [rep_flatten]; exact List.nodup_nil, by rw [rep_flatten]; exact fun b hb => (by cases hb), h2, fun _ _ => rfl⟩, by simp, by simp [Upd.names]⟩
      rw [hh.2]; exact El.of_flat hh.1 hf
    · cases hs
  · rename_i hf
    simp only [Bool.not_eq_true] at hf
    have hdd : (d && !e.flat) = d := by simp [hf]
    rw [hdd] at hs
    -- by taking
    have byTake : ∀ {c : LV}, x = c → c.take Hm wr d el e = some (ys, u) → Src P G M nx H cx w d e xv ys u Hm := fun hc ht => by
      subst hc
      obtain ⟨cx1, bs, a1, a2, a3, a4, a5, a6⟩ := LV.take_sound h (fun n o _ hn => hm n o hn) (fun n Et e xs hn => hm n _ hn) hwr ht hx nx
      unfold Took at a4
      split at a4
      · rename_i hd
        obtain ⟨⟨v', e1, hrow⟩, hfr, hnd⟩ := a4
        simp at e1; subst e1
        obtain ⟨css, bss, b1, b2, b3, b4⟩ := src_of_row (P := P) hrow fun c x b hh => hh.size
        refine ⟨⟨cx1, css, bss, a1, a2, a3, b1.mono fun c y b _ hh => by unfold El; rw [if_pos hd]; exact hh, fun b hb => hfr b (b2 b hb), b3 hnd, fun b hb => a5 b (b2 b hb), ?_, a6⟩, LV.take_bare ht, fun m hm => by obtain ⟨⟨_, _, _, _, _, hv⟩, _⟩ := LV.take_names ht m hm; exact ⟨_, hv⟩⟩
        obtain ⟨A, cap, rfl, _⟩ := hrow.slice
        have := b4 0 ys.length A cap (Nat.zero_le _) (Nat.le_refl _) fun hlt => by
          obtain ⟨g, c, e2, _⟩ := hrow.addr hlt
          simp at e2
          exact ⟨g, 0, ⟨c, by rw [e2.1, e2.2]⟩, by rw [e2.1]; simp⟩
        simpa [List.take_of_length_le (Nat.le_of_eq b1.len.1)] using this
      · rename_i hd
        obtain ⟨hrd, rfl⟩ := a4
        obtain ⟨css, h1, h2⟩ := src_of_rd (P := P) hrd
        refine ⟨⟨cx1, css, _, a1, a2, a3, h1.mono fun c y b _ hh => ?_, by rw [rep_flatten]; exact Free.nil, by rw [rep_flatten]; exact List.nodup_nil, by rw [rep_flatten]; exact fun b hb => (by cases hb), h2, a6⟩, LV.take_bare ht, fun m hm => by obtain ⟨⟨_, _, _, _, _, hv⟩, _⟩ := LV.take_names ht m hm; exact ⟨_, hv⟩⟩
        rw [hh.2]; exact El.of_rd hh.1 (.inl (by simpa using hd))
    split at hs
    · rename_i n lo hi
      split at hs
      · cases hs
      · rename_i hd
        simp only [Bool.not_eq_true] at hd
        have hx' := hx
        obtain ⟨h0, h1, h2, A, cap, A', e1, e2, rfl, e3, e4⟩ := hx'
        split at hs
        · cases hs
        · rename_i hnv
          split at hs
          · rename_i zs hr
            simp at hs; obtain ⟨rfl, rfl⟩ := hs
            simp only [LV.rows] at hr
            split at hr
            · rename_i ob hob
              split at hr
              · rename_i zs' hz
                simp at hr; subst hr
                have hob' := h.ob n _ (hm _ _ hob)
                cases ob with
                | box => simp [Ob.rows] at hz
                | vec E' e' d' ver qs =>
                  obtain ⟨rfl, rfl, rfl⟩ := asRows_some hz
                  have hd' : d' = false := by
                    cases d' with
                    | false => rfl
                    | true => exact absurd hob (hnv _ _ _ _)
                  subst hd'
                  obtain ⟨_, hl, hes, hrow⟩ := hob'
                  obtain ⟨css, bss, b1, b2, b3, b4⟩ := src_of_row (P := P) hrow fun c x b hh => hh.size
                  have hcut := ((All3.bare b1).take hi.toNat).drop lo.toNat
                  have hlc : (N.cut qs lo hi).length = hi.toNat - lo.toNat := by simp [N.cut]; omega
                  rw [List.take_replicate, List.drop_replicate] at hcut
                  refine ⟨⟨cx, _, _, h, Tr.refl _ _ _, Gv.refl _ _, hcut.mono fun c y b _ hh => ?_, by rw [rep_flatten]; exact Free.nil, by rw [rep_flatten]; exact List.nodup_nil, by rw [rep_flatten]; exact fun b hb => (by cases hb), ?_, fun _ _ => rfl⟩, by simp, by simp [Upd.names]⟩
                  · rw [hh.2]; exact El.of_rd hh.1 (.inl hd)
                  · have e5 : (hi - lo).toNat = hi.toNat - lo.toNat := by omega
                    rw [castL_rfl, hlc, e5]
                    refine b4 lo.toNat hi.toNat A' _ (by omega) (by omega) fun hlt => ?_
                    obtain ⟨b, o, rfl, rfl⟩ := e4 (by omega)
                    exact ⟨b, o, ⟨cap, by rw [e1, hl]⟩, by rw [hes]⟩
                | fro E' e' qs =>
                  obtain ⟨rfl, rfl, rfl⟩ := asRows_some hz
                  obtain ⟨hl, hes, _, hrd⟩ := hob'
                  rw [e1] at hrd
                  have hpt := hrd.part h0 h1 (by omega) (A' := A') (cap' := cap - lo.toNat) (by omega) (by rw [← hes]; exact e4)
                  obtain ⟨css, b1, b2⟩ := src_of_rd (P := P) hpt
                  refine ⟨⟨cx, css, _, h, Tr.refl _ _ _, Gv.refl _ _, b1.mono fun c y b _ hh => ?_, by rw [rep_flatten]; exact Free.nil, by rw [rep_flatten]; exact List.nodup_nil, by rw [rep_flatten]; exact fun b hb => (by cases hb), b2, fun _ _ => rfl⟩, by simp, by simp [Upd.names]⟩
                  rw [hh.2]; exact El.of_rd hh.1 (.inl hd)
              · cases hr
            · cases hr
          · cases hs
    · rename_i n
      split at hs
      · rename_i E' e' ver qs hn
        split at hs
        · cases hs
        · rename_i hd
          simp only [Bool.not_eq_true] at hd
          split at hs
          · rename_i zs hz
            simp at hs; obtain ⟨rfl, rfl⟩ := hs
            obtain ⟨rfl, rfl, rfl⟩ := asRows_some hz
            obtain ⟨_, hl, hes, hrow⟩ := h.ob n _ (hm _ _ hn)
            obtain ⟨css, bss, b1, b2, b3, b4⟩ := src_of_row (P := P) hrow fun c x b hh => hh.size
            refine ⟨⟨cx, css, _, h, Tr.refl _ _ _, Gv.refl _ _, (All3.bare b1).mono fun c y b _ hh => ?_, by rw [rep_flatten]; exact Free.nil, by rw [rep_flatten]; exact List.nodup_nil, by rw [rep_flatten]; exact fun b hb => (by cases hb), ?_, fun _ _ => rfl⟩, by simp, by simp [Upd.names]⟩
            · rw [hh.2]; exact El.of_rd hh.1 (.inl hd)
            · obtain ⟨A, cap, e5, _⟩ := hrow.slice
              have := b4 0 qs.length A cap (Nat.zero_le _) (Nat.le_refl _) fun hlt => by
                obtain ⟨g, c, e2, _⟩ := hrow.addr hlt
                rw [e5] at e2
                simp at e2
                exact ⟨g, 0, ⟨c, by rw [e5, e2.1, e2.2]⟩, by rw [e2.1]; simp⟩
              rw [hx.1, e5]
              simpa [castL_rfl, List.take_of_length_le (Nat.le_of_eq b1.len.1)] using this
          · cases hs
      · exact byTake rfl hs
    · exact byTake rfl hs
end
end Go.Sh

namespace Go.Sh
open Go Go.RowKit

section
variable {cx cx' : Cx} {w w' : World} {G : Base} {M M' nx n' : Nat} {H H' Hm : Heap} {P : Program} {E : Env}

theorem Rd.ones {S : Nat → Prop} : ∀ {t : Ty} {cs : List Value} {x : t.den}, Rd w S t cs x → ∀ v ∈ cs, v.oneCell' = true
  | .int _, _, _, h, v, hv => by rw [Rd] at h; subst h; simp at hv; subst hv; rfl
  | .bool, _, _, h, v, hv => by rw [Rd] at h; subst h; simp at hv; subst hv; rfl
  | .str, _, _, h, v, hv => by rw [Rd] at h; subst h; simp at hv; subst hv; rfl
  | .pair a b, _, _, h, v, hv => by
    obtain ⟨c1, c2, rfl, h1, h2⟩ := h
    rcases List.mem_append.1 hv with hv | hv
    · exact h1.ones v hv
    · exact h2.ones v hv
  | .slice _ _, _, _, h, v, hv => by obtain ⟨A, cap, rfl, _⟩ := h; simp at hv; subst hv; rfl

theorem El.ones [Laid] {S : Nat → Prop} {d : Bool} {e : Ty} {c : List Value} {x : e.den} {bs : List Nat} (h : El w S d e c x bs) : ∀ v ∈ c, v.oneCell' = true :=
  (h.rd (F := fun _ => True) (fun _ _ => trivial) fun _ _ => trivial).ones

theorem All3.ones [Laid] {S : Nat → Prop} {d : Bool} {e : Ty} : ∀ {css : List (List Value)} {xs : List e.den} {bss : List (List Nat)}, All3 (El w S d e) css xs bss → ∀ v ∈ css.flatten, v.oneCell' = true
  | [], [], [], _, v, hv => by cases hv
  | c :: css, _ :: _, _ :: _, h, v, hv => by
    rw [List.flatten_cons] at hv
    rcases List.mem_append.1 hv with hv | hv
    · exact h.1.ones v hv
    · exact All3.ones h.2 v hv

theorem upd_none {u : Upd} (hm : ∀ n o, Hm n = some o → H n = some o) (hu : ∀ m ∈ Upd.names u, ∃ o, Hm m = some o) (hnone : ∀ o, H nx ≠ some o) : nx ∉ Upd.names u := fun h => by
  obtain ⟨o, ho⟩ := hu nx h
  exact hnone o (hm _ _ ho)

theorem nodup_take {bss : List (List Nat)} (k : Nat) (h : bss.flatten.Nodup) : (bss.take k).flatten.Nodup := by
  have := List.take_append_drop k bss
  rw [← this, List.flatten_append] at h
  exact (List.nodup_append.1 h).1

theorem mem_take_flatten {bss : List (List Nat)} {k b : Nat} (h : b ∈ (bss.take k).flatten) : b ∈ bss.flatten := by
  obtain ⟨l, hl, hb⟩ := List.mem_flatten.1 h
  exact List.mem_flatten.2 ⟨l, List.mem_of_mem_take hl, hb⟩

/-- append to the first k elements of row n -/
theorem app_row [Laid] (hE : TabOk P E) {t ty el : TypeId} {ei : TI} {e : Ty} (hel : elemOf E t = some (el, ei, e)) (h : RH G M H cx w) (hm : ∀ n o, Hm n = some o → H n = some o) (hnx : nx < M') (hN : M ≤ M') (hnone : ∀ o, H nx ≠ some o) (hold : ∀ m o, H m = some o → o.old nx (nx + 1))
    {n : Nat} {d : Bool} {ver : Nat} {xs : List e.den} (hn : H n = some (.vec el e d ver xs)) (hio : G.nio ≤ n) {xv : Value} {ys : List e.den} {u : Upd} (hsrc : Src P G M nx H cx w d e xv ys u Hm) (hok : okUpd n u = true)
    (k : Nat) (hk : k ≤ xs.length) (hfits : N.fits (xs.take k) ys ei.bytes) {dv : Value} (hdv : (xs = [] → dv = (cx.μ n).v) ∧ ∀ g cap, (cx.μ n).v = .slice (some ⟨g, 0, none⟩) xs.length cap → xs ≠ [] ∨ True → dv = .slice (some ⟨g, 0, none⟩) k cap) :
    ∃ v w', (Builtin.append_ #[t, t] ty #[dv, xv]).run P w = .ok v w' ∧ After G M' (H.upd (u ++ [(n, none), (nx, some (.vec el e d 0 (N.app (xs.take k) ys)))])) nx (nx + 1) cx w (.lf (.ref nx)) v w' := by
  obtain ⟨⟨cx1, css, bss, a1, a2, a3, a4, a5, a6, a7, a8, a9⟩, hbare, hnm⟩ := hsrc
  obtain ⟨hne, hnd⟩ := okUpd_spec hok
  have hnu : n ∉ Upd.names u := fun hmem => hne n hmem rfl
  have hxu := upd_none (nx := nx) hm hnm hnone
  have hn1 : H.upd u n = some (.vec el e d ver xs) := by rw [Heap.upd_other H u hnu]; exact hn
  have hμ := a9 n hnu
  obtain ⟨cx2, b1, b2, b3, b4, b5, b6⟩ := a1.kill hn1 hio nx
  obtain ⟨_, hl, hes, hrow⟩ := a1.ob n _ hn1
  have hnodup := a1.nd n _ hn1
  have hnxn : nx ≠ n := fun h0 => hnone _ (h0 ▸ hn)
  have hnone2 : ∀ o, (fun m => if m = n then none else H.upd u m) nx ≠ some o := fun o => by
    simp only [if_neg hnxn]; rw [Heap.upd_other H u hxu]; exact hnone o
  have hold2 : ∀ m o, (fun m => if m = n then none else H.upd u m) m = some o → o.old nx (nx + 1) := fun m o hmo => by
    by_cases hmn : m = n
    · simp [hmn] at hmo
    · simp only [if_neg hmn] at hmo; exact upd_old hbare hold m o hmo
  rw [Heap.upd_append]
  have hfree : Free G _ cx2 w bss.flatten := a5.gv b3
  have hS : All3 (El w cx2.S d e) css ys bss := by rw [b5]; exact a4
  have done : ∀ {v w'}, After G M' (fun m => if m = nx then some (.vec el e d 0 (N.app (xs.take k) ys)) else (fun m => if m = n then none else H.upd u m) m) nx (nx + 1) cx2 w (.lf (.ref nx)) v w' →
      After G M' ((H.upd u).upd [(n, none), (nx, some (.vec el e d 0 (N.app (xs.take k) ys)))]) nx (nx + 1) cx w (.lf (.ref nx)) v w' := fun hA => by
    obtain ⟨cx3, c1, c2, c3⟩ := hA
    exact ⟨cx3, c1, c2, (a2.trans b2 (Nat.le_refl _) (Nat.le_refl _)).trans c3 (Nat.le_refl _) (Nat.le_succ _)⟩
  rcases hrow with ⟨rfl, ⟨A, hv⟩, hft⟩ | ⟨g, cap, cur, cssK, bssK, hv, h2, h3, h4, h5, h6, h7, h8⟩
  · have hd0 : dv = .slice A 0 0 := by rw [hdv.1 rfl, ← hμ, hv]
    subst hd0
    have hk0 : k = 0 := by simpa using hk
    subst hk0
    obtain ⟨v, w', e1, e2⟩ := append_core (M' := M') (ty := ty) (dv := .slice A 0 0) (xs := ([] : List e.den)) (cssK := []) (bssK := []) hE hel b1 hnx hN hnone2 hold2 trivial hS (by simpa using hfree) (by simpa using a6) a8 a4.ones hfits (.inl ⟨rfl, A, rfl⟩)
    exact ⟨v, w', e1, done e2⟩
  · have hd0 := hdv.2 g cap (by rw [← hμ, hv]) (.inr trivial)
    subst hd0
    have hft : ∀ b ∈ (cx1.μ n).foot, Free G (fun m => if m = n then none else H.upd u m) cx2 w [b] := fun b hb c hc => by
      rw [List.mem_singleton] at hc; rw [hc]; exact b4 b hb
    have hdisj : ∀ b ∈ (cx1.μ n).foot, b ∉ bss.flatten := fun b hb hb' => by
      obtain ⟨m, o, hmu, hmo, hf⟩ := a7 b hb'
      rw [hμ] at hb
      exact h.dj n m _ o hn hmo (fun e => hnu (e ▸ hmu)) b hb hf
    rw [h7, List.nodup_cons] at hnodup
    have hKs : ∀ b ∈ (bssK.take k).flatten, b ∈ (cx1.μ n).foot := fun b hb => by rw [h7]; exact List.mem_cons_of_mem _ (mem_take_flatten hb)
    have hlK := All3.lens (fun c x b hh => El.size hh) h8
    have hcK : cssK.length = xs.length := h8.len.1
    have hxk : (xs.take k).length = k := by simp; omega
    have htake : cur.toList.take ((xs.take k).length * e.size) = (cssK.take k).flatten := by
      rw [hxk]
      have hkl : (cssK.take k).flatten.length = k * e.size := by
        rw [flatten_len fun c hc => hlK c (List.mem_of_mem_take hc), List.length_take, hcK, Nat.min_eq_left hk]
      have h9 : cssK.flatten = (cssK.take k).flatten ++ (cssK.drop k).flatten := by rw [← List.flatten_append, List.take_append_drop]
      have h10 : (cur.toList.take (xs.length * e.size)).take (k * e.size) = cur.toList.take (k * e.size) := by
        rw [List.take_take, Nat.min_eq_left (Nat.mul_le_mul_right _ hk)]
      rw [← h10, h6, h9, ← hkl, List.take_left]
    have hgn : g ∉ (bssK.take k ++ bss).flatten := fun hb => by
      rw [List.flatten_append] at hb
      rcases List.mem_append.1 hb with hb | hb
      · exact hnodup.1 (mem_take_flatten hb)
      · exact hdisj g (by rw [h7]; simp) hb
    obtain ⟨v, w', e1, e2⟩ := append_core (M' := M') (ty := ty) (dv := .slice (some ⟨g, 0, none⟩) k cap) (xs := xs.take k) (cssK := cssK.take k) (bssK := bssK.take k) hE hel b1 hnx hN hnone2 hold2 (by rw [b5]; exact h8.take k) hS
      (by rw [List.flatten_append]; exact Free.append (fun b hb => b4 b (hKs b hb)) hfree)
      (by rw [List.flatten_append]; exact List.nodup_append.2 ⟨nodup_take k hnodup.2, a6, fun b hb c hc => by rintro rfl; exact hdisj b (hKs b hb) hc⟩) a8 a4.ones hfits
      (.inr ⟨g, cap, cur, by rw [hxk], h2, by omega, h4, h5, htake, hft g (by rw [h7]; simp), hgn⟩)
    exact ⟨v, w', e1, done e2⟩

theorem appendSV_is [Laid] (hE : TabOk P E) (hio : E.nio = G.nio) (h : RH G M H cx w) (hm : ∀ n o, Hm n = some o → H n = some o) {wr : Nat → Bool} {t ty : TypeId} {s x : SV} {sv xv : Value}
    (hs : VR cx w s sv) (hx : VR cx w x xv) {R : Type} {r : R} {K : SV → Upd → Nat → Option R} (hh : appendSV E Hm wr t s x nx K = some r) :
    ∃ a u, (∀ {R : Type} (K : SV → Upd → Nat → Option R), appendSV E Hm wr t s x nx K = K a u (nx + 1)) ∧ ∀ {M' : Nat}, nx < M' → M ≤ M' → (∀ o, H nx ≠ some o) → (∀ m o, H m = some o → o.old nx (nx + 1)) → ∃ v w', (Builtin.append_ #[t, t] ty #[sv, xv]).run P w = .ok v w' ∧ After G M' (H.upd u) nx (nx + 1) cx w a v w' := by
  have hwr : ∀ n, tk E wr n = true → G.nio ≤ n := fun m hm => by simp [tk, hio] at hm; exact hm.2
  unfold appendSV at hh
  split at hh
  · rename_i el ei e s x hel
    split at hh
    · -- to nil
      split at hh
      · rename_i ys u hsrc
        split at hh
        · rename_i hok
          obtain ⟨hfits, hh⟩ := ite_some' hh
          refine ⟨.lf (.ref nx), _, fun K => by simp only [appendSV, hel, hsrc]; rw [if_pos hok, ite_pos hfits], ?_⟩
          intro M' hnx hN hnone hold
          obtain ⟨⟨cx1, css, bss, a1, a2, a3, a4, a5, a6, a7, a8, a9⟩, hbare, hnm⟩ := srcOf_sound (P := P) h hm hwr hsrc hx nx
          obtain ⟨A, rfl⟩ := hs
          have hxu := upd_none (nx := nx) hm hnm hnone
          obtain ⟨v, w', e1, cx3, c1, c2, c3⟩ := append_core (M' := M') (ty := ty) (dv := .slice A 0 0) (xs := ([] : List e.den)) (cssK := []) (bssK := []) hE hel a1 hnx hN (fun o => by rw [Heap.upd_other H u hxu]; exact hnone o) (upd_old hbare hold) trivial a4 (by simpa using a5) (by simpa using a6) a8 a4.ones hfits (.inl ⟨rfl, A, rfl⟩)
          refine ⟨v, w', e1, ?_⟩
          rw [Heap.upd_append]
          exact ⟨cx3, c1, c2, a2.trans c3 (Nat.le_refl _) (Nat.le_succ _)⟩
        · cases hh
      · cases hh
    · rename_i n
      split at hh
      · rename_i E' e' d ver xs0 hn
        split at hh
        · rename_i xs hxs
          split at hh
          · rename_i htk
            split at hh
            · rename_i ys u hsrc
              split at hh
              · rename_i hok
                obtain ⟨hfits, hh⟩ := ite_some' hh
                refine ⟨.lf (.ref nx), _, fun K => by simp only [appendSV, hel, hn, hxs, hsrc]; rw [if_pos htk, if_pos hok, ite_pos hfits], ?_⟩
                intro M' hnx hN hnone hold
                obtain ⟨rfl, rfl, rfl⟩ := asRows_some hxs
                have hn' := hm n _ hn
                obtain ⟨rfl, _⟩ := hs
                have hl := (h.ob n _ hn').2.1
                have := app_row (M' := M') (ty := ty) hE hel h hm hnx hN hnone hold hn' (hwr n htk) (srcOf_sound (P := P) h hm hwr hsrc hx nx) hok xs0.length (Nat.le_refl _) (by rw [List.take_length]; exact hfits) (dv := (cx.μ n).v) ⟨fun _ => rfl, fun g cap e1 _ => e1⟩
                rw [List.take_length] at this
                exact this
              · cases hh
            · cases hh
          · cases hh
        · cases hh
      · cases hh
    · rename_i n hi
      split at hh
      · rename_i E' e' d ver xs0 hn
        split at hh
        · rename_i xs hxs
          split at hh
          · rename_i htk
            split at hh
            · rename_i ys u hsrc
              split at hh
              · rename_i hok
                obtain ⟨hfits, hh⟩ := ite_some' hh
                refine ⟨.lf (.ref nx), _, fun K => by simp only [appendSV, hel, hn, hxs, hsrc]; rw [if_pos htk, if_pos hok, ite_pos hfits], ?_⟩
                intro M' hnx hN hnone hold
                obtain ⟨rfl, rfl, rfl⟩ := asRows_some hxs
                simp only [Bool.and_eq_true, Bool.or_eq_true, Bool.not_eq_true'] at htk
                have hn' := hm n _ hn
                obtain ⟨_, hl, hes, hrow⟩ := h.ob n _ hn'
                obtain ⟨h0, h1, h2, A, cap, A', e1, e2, rfl, e3, e4⟩ := hs
                have hsrc' : srcOf Hm (tk E wr) E' e' (d && !e'.flat) x = some (ys, u) := by
                  rcases htk.2 with hf | rfl
                  · rw [hf]; simpa using hsrc
                  · simpa using hsrc
                have hA := e3 rfl
                subst hA
                have hcut : N.cut (castL rfl xs0) 0 hi = xs0.take hi.toNat := by simp [N.cut, castL_rfl]
                rw [hcut] at hfits ⊢
                refine app_row (M' := M') (ty := ty) hE hel h hm hnx hN hnone hold hn' (hwr n htk.1) (srcOf_sound (P := P) h hm hwr hsrc' hx nx) hok hi.toNat (by omega) hfits ⟨fun h0 => ?_, fun g c e5 _ => ?_⟩
                · rw [e1]
                  have : hi = 0 := by rw [h0] at hl; simp at hl; omega
                  rw [h0] at hl; subst this; simp at hl
                  rw [hl]; simp
                · rw [e1] at e5
                  simp at e5
                  obtain ⟨rfl, _, rfl⟩ := e5
                  simp
              · cases hh
            · cases hh
          · cases hh
        · cases hh
      · cases hh
    · cases hh
  · cases hh
end
end Go.Sh

