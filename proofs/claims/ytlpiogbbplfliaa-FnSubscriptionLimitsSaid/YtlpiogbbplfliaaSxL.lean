/- Limits of subscriptions: the law on draws. -/
import Derived.Test.YtlpiogbbplfliaaSxW
namespace Go.Proofs.Ytlpiogbbplfliaa
open Go.RowKit


theorem encB_eq (r s : Bear) : (encB r == encB s) = eqB r s := by
  rw [Bool.eq_iff_iff]; simp [encB, eqB, and_assoc]
theorem limB_idem (s : Sub) (r : Bear) : limB s (limB s r) = limB s r := by
  unfold limB imax imin
  simp only
  congr 1
  · split <;> (try split) <;> omega
  · split <;> (try split) <;> omega
theorem limS_full (s : Sub) (ys : List Bear) : limS s ys ys.length = ys.map (limB s) := by rw [limS, List.take_length]
theorem allAt_nth {ys : List Bear} {q : Bear → Bool} : allAt (fun k => q (nth d0B ys k)) ys.length = ys.all q := by
  rw [Bool.eq_iff_iff, allAt, List.all_eq_true, List.all_eq_true]
  constructor
  · intro h r hr
    obtain ⟨i, hi, rfl⟩ := List.getElem_of_mem hr
    have := h i (by simpa using hi)
    rwa [nth_eq hi] at this
  · intro h k hk
    have hk' : k < ys.length := by simpa using hk
    rw [nth_eq hk']
    exact h _ (List.getElem_mem _)
theorem fit_all (s : Sub) (ys : List Bear) : allAt (fitAt s ys) ys.length = ys.all (fun r => encB r == encB (limB s r)) := allAt_nth (q := fun r => encB r == encB (limB s r))
theorem rows_map (f : Bear → Bear) : ∀ ys : List Bear, eqRows eqB (ys.map f) ys = ys.all (fun r => eqB (f r) r)
  | [] => rfl
  | y :: ys => by
    rw [List.map_cons, List.all_cons, ← rows_map f ys]
    rfl
theorem eqB_comm (r s : Bear) : eqB r s = eqB s r := by
  rw [Bool.eq_iff_iff]; simp [eqB]; omega
theorem lim_fit (s : Sub) (ys : List Bear) : (allAt (fitAt s ys) ys.length == eqRows eqB (limS s ys ys.length) ys) = true := by
  rw [fit_all, limS_full, rows_map]
  have : (fun r => encB r == encB (limB s r)) = (fun r => eqB (limB s r) r) := by
    funext r; rw [encB_eq, eqB_comm]
  rw [this]; simp
theorem lim_chk (s : Sub) (ys : List Bear) : ((((limS s ys ys.length).length : Nat) : Int) != ((ys.length : Nat) : Int) || !allAt (fitAt s (limS s ys ys.length)) (limS s ys ys.length).length) = false := by
  rw [fit_all, limS_full]
  have h : (ys.map (limB s)).all (fun r => encB r == encB (limB s r)) = true := by
    rw [List.all_eq_true]
    intro r hr
    obtain ⟨y, _, rfl⟩ := List.mem_map.1 hr
    rw [limB_idem]; simp
  rw [h]; simp
theorem lim_again (s : Sub) (ys : List Bear) : eqRows eqB (limS s (limS s ys ys.length) (limS s ys ys.length).length) (limS s ys ys.length) = true := by
  have h : limS s (limS s ys ys.length) (limS s ys ys.length).length = limS s ys ys.length := by
    rw [limS_full, limS_full, List.map_map]
    congr 1
    funext r
    exact limB_idem s r
  rw [h]; exact eqRows_refl eqB_refl _
theorem lim_nth (s : Sub) (ys : List Bear) {k : Nat} (h : k < ys.length) : nth d0B (limS s ys ys.length) k = limB s (nth d0B ys k) := by
  rw [limS_full, nth_eq (by simpa using h), nth_eq h]; simp
theorem lim_row (s : Sub) (y : Bear) : (((((((limB s y).id != y.id) || decide ((limB s y).cls < y.cls)) || decide ((limB s y).cls < s.best)) || decide (y.rate < (limB s y).rate)) || decide (s.rate < (limB s y).rate)) || (encB (limB s y) != encB (limB s y))) = false := by
  have h1 : y.cls ≤ imax y.cls s.best ∧ s.best ≤ imax y.cls s.best := by unfold imax; split <;> omega
  have h2 : imin y.rate s.rate ≤ y.rate ∧ imin y.rate s.rate ≤ s.rate := by unfold imin; split <;> omega
  have e1 : decide ((limB s y).cls < y.cls) = false := decide_eq_false (by show ¬ imax y.cls s.best < y.cls; omega)
  have e2 : decide ((limB s y).cls < s.best) = false := decide_eq_false (by show ¬ imax y.cls s.best < s.best; omega)
  have e3 : decide (y.rate < (limB s y).rate) = false := decide_eq_false (by show ¬ y.rate < imin y.rate s.rate; omega)
  have e4 : decide (s.rate < (limB s y).rate) = false := decide_eq_false (by show ¬ s.rate < imin y.rate s.rate; omega)
  have e5 : ((limB s y).id != y.id) = false := by show (y.id != y.id) = false; simp
  have e6 : (encB (limB s y) != encB (limB s y)) = false := by simp
  rw [e1, e2, e3, e4, e5, e6]
  rfl

theorem sameB_c (xs ys : List Bear) (A B : Option Addr) (b o c b2 o2 c2 : Nat) (w : World) (hs : Sl w A b o (flat encB xs)) (hs2 : Sl w B b2 o2 (flat encB ys)) (hl : xs.length ≤ 2097152) :
    Calls Try.prog 35 #[.slice A xs.length c, .slice B ys.length c2] w fun e w' => e = .returned (.bool (eqRows eqB xs ys)) ∧ HP w [] w' := by
  refine calls_entry [] _ Try.func35 rfl Try.ntmps35 (HP.refl w) (env2 rfl) ?_
  refine wc_seq ?_
  refine wc_region ?_
  refine wl_v rfl (val_assign lkc) ?_
  refine wl_nil ?_
  refine px_then ?_
  refine wc_seq ?_
  refine wc_seq ?_
  refine wc_region ?_
  refine wl_v rfl (val_move (lk rfl)) ?_
  refine wl_v rfl (val_len es_44 (lk rfl)) ?_
  refine wl_v rfl (val_move (lk rfl)) ?_
  refine wl_v rfl (val_len es_44 (lk rfl)) ?_
  refine wl_v rfl (val_neq (lk rfl) (lk rfl)) ?_
  refine wl_nil ?_
  refine px_then ?_
  refine wc_cond (lk rfl) (fun hc0 => ?_) (fun hc0 => ?_)
  · refine wc_seq ?_
    refine wc_region ?_
    refine wl_v rfl (val_assign lkc) ?_
    refine wl_nil ?_
    refine px_then ?_
    refine wc_ret ?_
    refine px_then_ret ?_
    refine fin1 rfl (res_tmp rfl) (fun w1 hw => ?_)
    exact ⟨by rw [eqRows_ne (cast_ne' hc0)], hw.drop rfl⟩
  have hxy : xs.length = ys.length := cast_ne hc0
  refine wc_skip ?_
  refine px_then ?_
  refine wc_seq ?_
  refine wc_seq ?_
  refine wc_region ?_
  refine wl_v rfl (val_assign lkc) ?_
  refine wl_nil ?_
  refine px_then ?_
  refine wc_block ?_
  refine wc_trim (l' := [(0, _), (1, _), (4, _), (5, _)]) ⟨rfl, rfl, rfl, rfl, trivial⟩ ?_
  refine wc_loop0 (X := Nat) (fun k => k ≤ xs.length ∧ eqRows eqB (xs.drop k) (ys.drop k) = eqRows eqB xs ys) (fun k => [(5, (true, .int .i64 (k : Nat)))]) (fun k => xs.length - k) 0 (⟨Nat.zero_le _, rfl⟩) ⟨rfl, rfl, rfl, rfl, rfl, trivial⟩ ?_
  rintro k ⟨hk, ht⟩
  refine wc_seq ?_
  refine wc_seq ?_
  refine wc_region ?_
  refine wl_v rfl (val_move (lk rfl)) ?_
  refine wl_v rfl (val_move (lk rfl)) ?_
  refine wl_v rfl (val_len es_44 (lk rfl)) ?_
  refine wl_v rfl (val_lss (lk rfl) (lk rfl)) ?_
  refine wl_nil ?_
  refine px_then ?_
  refine wc_cond (lk rfl) (fun hc1 => ?_) (fun hc1 => ?_)
  · have hlt : k < xs.length := by have := of_decide_eq_true hc1; omega
    refine wc_skip ?_
    refine px_then ?_
    refine wc_seq ?_
    refine wc_block ?_
    refine wc_seq ?_
    refine wc_region_q mo_ (by kernel_rfl) ?_
    refine wq_v rfl (val_move (lk rfl)) ?_
    refine wq_v rfl (val_move (lk rfl)) ?_
    refine wq_v rfl (val_index es_44 (lk rfl) (lk rfl) (fun hG => hs.hd encB_len (by decide) (i := k) (by first | omega | (have h9 := of_decide_eq_true hG; omega) | (simp at hG; omega))) (fun hG => by first | omega | (have h9 := of_decide_eq_true hG; omega) | (simp at hG; omega))) ?_
    refine wq_v rfl (val_loadN ag_36 (lk rfl) rfl (hs.rec_ rfl encB_len d0B (fun hG => by first | omega | (have h9 := of_decide_eq_true hG; omega) | (simp at hG; omega)))) ?_
    refine wq_v rfl (val_move (lk rfl)) ?_
    refine wq_v rfl (val_move (lk rfl)) ?_
    refine wq_v rfl (val_index es_44 (lk rfl) (lk rfl) (fun hG => hs2.hd encB_len (by decide) (i := k) (by first | omega | (have h9 := of_decide_eq_true hG; omega) | (simp at hG; omega))) (fun hG => by first | omega | (have h9 := of_decide_eq_true hG; omega) | (simp at hG; omega))) ?_
    refine wq_v rfl (val_loadN ag_36 (lk rfl) rfl (hs2.rec_ rfl encB_len d0B (fun hG => by first | omega | (have h9 := of_decide_eq_true hG; omega) | (simp at hG; omega)))) ?_
    refine wq_v rfl (val_neqK eqk_36 ist_36 egt_36 (lk rfl) (lk rfl) rfl rfl) ?_
    refine wq_nil ?_
    refine px_then ?_
    refine wc_cond (lk rfl) (fun hc2 => ?_) (fun hc2 => ?_)
    · refine wc_seq ?_
      refine wc_region ?_
      refine wl_v rfl (val_assign lkc) ?_
      refine wl_nil ?_
      refine px_then ?_
      refine wc_ret ?_
      refine px_block_ret ?_
      refine px_then_ret ?_
      refine px_then_ret ?_
      refine px_block_ret ?_
      refine px_then_ret ?_
      refine fin1 rfl (res_tmp rfl) (fun w1 hw => ?_)
      exact ⟨by rw [← ht, eqRows_step (d := d0B) hlt (by omega)]; simp only [bne, Bool.not_eq_true'] at hc2; rw [encB_eq] at hc2; rw [hc2]; rfl, hw.drop rfl⟩
    refine wc_skip ?_
    refine px_block ?_
    refine px_then ?_
    refine wc_region ?_
    refine wl_v rfl (val_move (lk rfl)) ?_
    refine wl_v rfl (val_inc (lk rfl) (by omega)) ?_
    refine wl_v rfl (val_assign (lk rfl)) ?_
    refine wl_nil ?_
    refine px_round0 (k + 1) (⟨by omega, by rw [← ht, eqRows_step (d := d0B) hlt (by omega)]; simp only [bne, Bool.not_eq_false'] at hc2; rw [encB_eq] at hc2; rw [hc2]; rfl⟩) (by omega) (⟨rfl, rfl, rfl, rfl, rfl, trivial⟩) (fun _ h => h.dropN 0 rfl)
  have hge : k = xs.length := by have := of_decide_eq_false hc1; omega
  subst hge
  refine wc_exit ?_
  refine px_then_exit ?_
  refine px_then_exit ?_
  refine px_block_exit ?_
  refine px_then ?_
  refine wc_seq ?_
  refine wc_region ?_
  refine wl_v rfl (val_assign lkc) ?_
  refine wl_nil ?_
  refine px_then ?_
  refine wc_ret ?_
  refine fin1 rfl (res_tmp rfl) (fun w1 hw => ?_)
  have e1 : xs.drop xs.length = [] := by simp
  have e2 : ys.drop xs.length = [] := by simp [hxy]
  exact ⟨by rw [← ht, e1, e2]; rfl, hw.drop rfl⟩

theorem law_LimitsD (A : Option Addr) (n b o c : Nat) (w : World) (hk : Cod w A n b o) :
    Calls Try.prog 9 #[.slice A n c] w fun e w' => e = .returned (.bool true) ∧ HP w [] w' := by
  refine calls_entry [] _ Try.func9 rfl Try.ntmps9 (HP.refl w) (env1 rfl) ?_
  refine wc_seq ?_
  refine wc_region ?_
  refine wl_v rfl (val_assign lkc) ?_
  refine wl_nil ?_
  refine px_then ?_
  refine wc_seq ?_
  refine wc_seq ?_
  refine wc_region ?_
  refine wl_v rfl (val_move (lk rfl)) ?_
  refine wl_call gd_none rfl ci_33 (args1 (lk rfl)) (fun hG w1 hw => big_c _ _ _ w1) ?_
  refine wl_nil ?_
  refine px_then ?_
  refine wc_cond (lk rfl) (fun hc0 => ?_) (fun hc0 => ?_)
  · refine wc_seq ?_
    refine wc_region ?_
    refine wl_v rfl (val_assign lkc) ?_
    refine wl_nil ?_
    refine px_then ?_
    refine wc_ret ?_
    refine px_then_ret ?_
    refine fin1 rfl (res_tmp rfl) (fun w1 hw => ?_)
    exact ⟨rfl, hw.drop rfl⟩
  have hn : n ≤ 1048576 := by have := of_decide_eq_false hc0; omega
  refine wc_skip ?_
  refine px_then ?_
  refine wc_seq ?_
  refine wc_region ?_
  refine wl_v rfl (val_move (lk rfl)) ?_
  refine wl_callx rfl ci_34 (args1 (lk rfl)) (fun w1 hw => DrawLim_c _ _ _ _ _ w1 (hk.hp hw rfl)) (fun _ => rfl) ?_
  rintro ⟨⟨rs11, rA11, rc11, gr11, rT11, rcs11⟩, ⟨ys11, gy11, yc11, zs11⟩⟩ ⟨hR11, hlen11, ⟨hyl11, hyc11⟩, hln11⟩
  simp only [DP.row] at hR11
  simp only at hlen11 hyl11 hyc11 hln11
  refine wl_v rfl (val_move (lk rfl)) ?_
  refine wl_v rfl (val_extract (lk rfl) rfl) ?_
  refine wl_v rfl (val_extract (lk rfl) rfl) ?_
  refine wl_alloc zc_27 rfl fun b1 => ?_
  refine wl_storeB 0 rfl (lk rfl) (lk rfl) ag_27 rfl rfl ?_
  refine wl_v rfl (val_assign (lk rfl)) ?_
  refine wl_nil ?_
  refine px_then ?_
  refine wc_seq ?_
  refine wc_region ?_
  refine wl_v rfl (val_loadB (.head _) (lk rfl) ag_27) ?_
  refine wl_v rfl (val_move (lk rfl)) ?_
  refine wl_callx rfl ci_29 (args2 (lk rfl) (lk rfl)) (fun w1 hw => Lims_c rs11 ys11 _ _ 0 0 _ _ _ _ w1 (Sl.own hw (.tail _ (.tail _ (.head _)))) (by omega)) (fun _ => rfl) ?_
  rintro ⟨gb16, gc16, gs16⟩ ⟨hgl16, hgc16⟩
  have hXl : (limS rs11 ys11 ys11.length).length = ys11.length := limS_len rs11 ys11 (Nat.le_refl _)
  refine wl_v rfl (val_assign (lk rfl)) ?_
  refine wl_nil ?_
  refine px_then ?_
  refine wc_seq ?_
  refine wc_seq ?_
  refine wc_region ?_
  refine wl_v rfl (val_move (lk rfl)) ?_
  refine wl_v rfl (val_len es_44 (lk rfl)) ?_
  refine wl_v rfl (val_move (lk rfl)) ?_
  refine wl_v rfl (val_len es_44 (lk rfl)) ?_
  refine wl_v rfl (val_neq (lk rfl) (lk rfl)) ?_
  refine wl_v rfl (val_move (lk rfl)) ?_
  refine wl_val (gd_f rfl rfl rfl) rfl (val_loadB (.tail _ (.head _)) (lk rfl) ag_27) ?_
  refine wl_val (gd_f rfl rfl rfl) rfl (val_move (lk rfl)) ?_
  refine wl_call (gd_f rfl rfl rfl) rfl ci_26 (args2 (lkg rfl) (lkg rfl)) (fun hG w1 hw => Within_c rs11 (limS rs11 ys11 ys11.length) _ _ 0 0 _ _ _ _ w1 (Sl.own hw (.head _)) (by omega)) ?_
  refine wl_val (gd_f rfl rfl rfl) rfl (val_not (lkg rfl)) ?_
  refine wl_v rfl (val_or (lk rfl) (lkg rfl)) ?_
  refine wl_v rfl ((val_move (lk rfl)).eq (congrArg Value.bool (lim_chk rs11 ys11))) ?_
  refine wl_val (gd_f rfl rfl rfl) rfl (val_loadB (.tail _ (.head _)) (lk rfl) ag_27) ?_
  refine wl_val (gd_f rfl rfl rfl) rfl (val_move (lk rfl)) ?_
  refine wl_callxg (gd_f rfl rfl rfl) rfl rfl ci_29 (args2 (lkg rfl) (lkg rfl)) (fun w1 hw => Lims_c rs11 (limS rs11 ys11 ys11.length) _ _ 0 0 _ _ _ _ w1 (Sl.own hw (.head _)) (by omega)) (fun _ => rfl) ?_
  rintro ⟨gb31, gc31, gs31⟩ ⟨hgl31, hgc31⟩
  have hXl2 : (limS rs11 (limS rs11 ys11 ys11.length) (limS rs11 ys11 ys11.length).length).length = (limS rs11 ys11 ys11.length).length := limS_len rs11 (limS rs11 ys11 ys11.length) (Nat.le_refl _)
  refine wl_val (gd_f rfl rfl rfl) rfl (val_move (lk rfl)) ?_
  refine wl_call (gd_f rfl rfl rfl) rfl ci_35 (args2 (lkg rfl) (lkg rfl)) (fun hG w1 hw => sameB_c (limS rs11 (limS rs11 ys11 ys11.length) (limS rs11 ys11 ys11.length).length) (limS rs11 ys11 ys11.length) _ _ _ _ _ _ _ _ w1 (Sl.own hw (.head _)) (Sl.own hw (.tail _ (.head _))) (by omega)) ?_
  refine wl_val (gd_f rfl rfl rfl) rfl (val_not (lkg rfl)) ?_
  refine wl_v rfl (val_or (lk rfl) (lkg rfl)) ?_
  refine wl_nil ?_
  refine px_then ?_
  refine wc_cond (lk rfl) (fun hc1 => ?_) (fun hc1 => ?_)
  · (exfalso; rw [lim_again] at hc1; exact Bool.noConfusion hc1)
  refine wc_skip ?_
  refine px_then ?_
  refine wc_seq ?_
  refine wc_seq ?_
  refine wc_region ?_
  refine wl_v rfl (val_assign lkc) ?_
  refine wl_nil ?_
  refine px_then ?_
  refine wc_block ?_
  refine wc_trim (l' := [(2, _), (3, _), (4, _), (5, _), (6, _)]) ⟨rfl, rfl, rfl, rfl, rfl, trivial⟩ ?_
  refine wc_loop0 (X := Nat) (fun k => k ≤ ys11.length) (fun k => [(6, (true, .int .i64 (k : Nat)))]) (fun k => ys11.length - k) 0 (Nat.zero_le _) ⟨rfl, rfl, rfl, rfl, rfl, rfl, trivial⟩ ?_
  intro k hk0
  refine wc_seq ?_
  refine wc_seq ?_
  refine wc_region ?_
  refine wl_v rfl (val_move (lk rfl)) ?_
  refine wl_v rfl (val_move (lk rfl)) ?_
  refine wl_v rfl (val_len es_44 (lk rfl)) ?_
  refine wl_v rfl (val_lss (lk rfl) (lk rfl)) ?_
  refine wl_nil ?_
  refine px_then ?_
  refine wc_cond (lk rfl) (fun hc2 => ?_) (fun hc2 => ?_)
  · have hlt : k < ys11.length := by have h9 : ((k : Nat) : Int) < ((ys11.length : Nat) : Int) := of_decide_eq_true hc2; omega
    have hXk := lim_nth rs11 ys11 hlt
    refine wc_skip ?_
    refine px_then ?_
    refine wc_seq ?_
    refine wc_block ?_
    refine wc_seq ?_
    refine wc_region_q mo_ (by kernel_rfl) ?_
    refine wq_v rfl (val_move (lk rfl)) ?_
    refine wq_v rfl (val_move (lk rfl)) ?_
    refine wq_v rfl (val_index es_44 (lk rfl) (lk rfl) (fun hG => rfl) (fun hG => (by omega))) ?_
    refine wq_v rfl (val_field fo_36_0 (lk rfl)) ?_
    refine wq_v rfl (val_load1 t1_3 (lk rfl) (own_fld (.tail _ (.head _)) encB_len d0B (i := k) (f := 0) (fun hG => by first | omega | (have h9 := of_decide_eq_true hG; omega) | (simp at hG; omega)) rfl)) ?_
    refine wq_v rfl (val_move (lk rfl)) ?_
    refine wq_v rfl (val_move (lk rfl)) ?_
    refine wq_v rfl (val_index es_44 (lk rfl) (lk rfl) (fun hG => rfl) (fun hG => (by omega))) ?_
    refine wq_v rfl (val_field fo_36_0 (lk rfl)) ?_
    refine wq_v rfl (val_load1 t1_3 (lk rfl) (own_fld (.tail _ (.tail _ (.tail _ (.tail _ (.head _))))) encB_len d0B (i := k) (f := 0) (fun hG => by first | omega | (have h9 := of_decide_eq_true hG; omega) | (simp at hG; omega)) rfl)) ?_
    refine wq_v rfl (val_neq (lk rfl) (lk rfl)) ?_
    refine wq_v rfl (val_move (lk rfl)) ?_
    refine wq_val (gd_f rfl rfl rfl) rfl (val_move (lk rfl)) ?_
    refine wq_val (gd_f rfl rfl rfl) rfl (val_move (lk rfl)) ?_
    refine wq_val (gd_f rfl rfl rfl) rfl (val_index es_44 (lkg rfl) (lkg rfl) (fun hG => rfl) (fun hG => (by omega))) ?_
    refine wq_val (gd_f rfl rfl rfl) rfl (val_field fo_36_1 (lkg rfl)) ?_
    refine wq_val (gd_f rfl rfl rfl) rfl (val_load1 t1_3 (lkg rfl) (own_fld (.tail _ (.head _)) encB_len d0B (i := k) (f := 1) (fun hG => by first | omega | (have h9 := of_decide_eq_true hG; omega) | (simp at hG; omega)) rfl)) ?_
    refine wq_val (gd_f rfl rfl rfl) rfl (val_move (lk rfl)) ?_
    refine wq_val (gd_f rfl rfl rfl) rfl (val_move (lk rfl)) ?_
    refine wq_val (gd_f rfl rfl rfl) rfl (val_index es_44 (lkg rfl) (lkg rfl) (fun hG => rfl) (fun hG => (by omega))) ?_
    refine wq_val (gd_f rfl rfl rfl) rfl (val_field fo_36_1 (lkg rfl)) ?_
    refine wq_val (gd_f rfl rfl rfl) rfl (val_load1 t1_3 (lkg rfl) (own_fld (.tail _ (.tail _ (.tail _ (.tail _ (.head _))))) encB_len d0B (i := k) (f := 1) (fun hG => by first | omega | (have h9 := of_decide_eq_true hG; omega) | (simp at hG; omega)) rfl)) ?_
    refine wq_val (gd_f rfl rfl rfl) rfl (val_lss (lkg rfl) (lkg rfl)) ?_
    refine wq_v rfl (val_or (lk rfl) (lkg rfl)) ?_
    refine wq_v rfl (val_move (lk rfl)) ?_
    refine wq_val (gd_f rfl rfl rfl) rfl (val_move (lk rfl)) ?_
    refine wq_val (gd_f rfl rfl rfl) rfl (val_move (lk rfl)) ?_
    refine wq_val (gd_f rfl rfl rfl) rfl (val_index es_44 (lkg rfl) (lkg rfl) (fun hG => rfl) (fun hG => (by omega))) ?_
    refine wq_val (gd_f rfl rfl rfl) rfl (val_field fo_36_1 (lkg rfl)) ?_
    refine wq_val (gd_f rfl rfl rfl) rfl (val_load1 t1_3 (lkg rfl) (own_fld (.tail _ (.head _)) encB_len d0B (i := k) (f := 1) (fun hG => by first | omega | (have h9 := of_decide_eq_true hG; omega) | (simp at hG; omega)) rfl)) ?_
    refine wq_val (gd_f rfl rfl rfl) rfl (val_field fo_27_1 (lk rfl)) ?_
    refine wq_val (gd_f rfl rfl rfl) rfl (val_load1 t1_3 (lkg rfl) (cell_own (.tail _ (.tail _ (.head _))) fun _ => rfl)) ?_
    refine wq_val (gd_f rfl rfl rfl) rfl (val_lss (lkg rfl) (lkg rfl)) ?_
    refine wq_v rfl (val_or (lk rfl) (lkg rfl)) ?_
    refine wq_v rfl (val_move (lk rfl)) ?_
    refine wq_val (gd_f rfl rfl rfl) rfl (val_move (lk rfl)) ?_
    refine wq_val (gd_f rfl rfl rfl) rfl (val_move (lk rfl)) ?_
    refine wq_val (gd_f rfl rfl rfl) rfl (val_index es_44 (lkg rfl) (lkg rfl) (fun hG => rfl) (fun hG => (by omega))) ?_
    refine wq_val (gd_f rfl rfl rfl) rfl (val_field fo_36_2 (lkg rfl)) ?_
    refine wq_val (gd_f rfl rfl rfl) rfl (val_load1 t1_3 (lkg rfl) (own_fld (.tail _ (.head _)) encB_len d0B (i := k) (f := 2) (fun hG => by first | omega | (have h9 := of_decide_eq_true hG; omega) | (simp at hG; omega)) rfl)) ?_
    refine wq_val (gd_f rfl rfl rfl) rfl (val_move (lk rfl)) ?_
    refine wq_val (gd_f rfl rfl rfl) rfl (val_move (lk rfl)) ?_
    refine wq_val (gd_f rfl rfl rfl) rfl (val_index es_44 (lkg rfl) (lkg rfl) (fun hG => rfl) (fun hG => (by omega))) ?_
    refine wq_val (gd_f rfl rfl rfl) rfl (val_field fo_36_2 (lkg rfl)) ?_
    refine wq_val (gd_f rfl rfl rfl) rfl (val_load1 t1_3 (lkg rfl) (own_fld (.tail _ (.tail _ (.tail _ (.tail _ (.head _))))) encB_len d0B (i := k) (f := 2) (fun hG => by first | omega | (have h9 := of_decide_eq_true hG; omega) | (simp at hG; omega)) rfl)) ?_
    refine wq_val (gd_f rfl rfl rfl) rfl (val_gtr (lkg rfl) (lkg rfl)) ?_
    refine wq_v rfl (val_or (lk rfl) (lkg rfl)) ?_
    refine wq_v rfl (val_move (lk rfl)) ?_
    refine wq_val (gd_f rfl rfl rfl) rfl (val_move (lk rfl)) ?_
    refine wq_val (gd_f rfl rfl rfl) rfl (val_move (lk rfl)) ?_
    refine wq_val (gd_f rfl rfl rfl) rfl (val_index es_44 (lkg rfl) (lkg rfl) (fun hG => rfl) (fun hG => (by omega))) ?_
    refine wq_val (gd_f rfl rfl rfl) rfl (val_field fo_36_2 (lkg rfl)) ?_
    refine wq_val (gd_f rfl rfl rfl) rfl (val_load1 t1_3 (lkg rfl) (own_fld (.tail _ (.head _)) encB_len d0B (i := k) (f := 2) (fun hG => by first | omega | (have h9 := of_decide_eq_true hG; omega) | (simp at hG; omega)) rfl)) ?_
    refine wq_val (gd_f rfl rfl rfl) rfl (val_field fo_27_0 (lk rfl)) ?_
    refine wq_val (gd_f rfl rfl rfl) rfl (val_load1 t1_3 (lkg rfl) (cell_own (.tail _ (.tail _ (.head _))) fun _ => rfl)) ?_
    refine wq_val (gd_f rfl rfl rfl) rfl (val_gtr (lkg rfl) (lkg rfl)) ?_
    refine wq_v rfl (val_or (lk rfl) (lkg rfl)) ?_
    refine wq_v rfl (val_move (lk rfl)) ?_
    refine wq_val (gd_f rfl rfl rfl) rfl (val_move (lk rfl)) ?_
    refine wq_val (gd_f rfl rfl rfl) rfl (val_move (lk rfl)) ?_
    refine wq_val (gd_f rfl rfl rfl) rfl (val_index es_44 (lkg rfl) (lkg rfl) (fun hG => rfl) (fun hG => (by omega))) ?_
    refine wq_val (gd_f rfl rfl rfl) rfl (val_loadN ag_36 (lkg rfl) rfl (own_rec (.tail _ (.head _)) encB_len d0B (fun hG => by first | omega | (have h9 := of_decide_eq_true hG; omega) | (simp at hG; omega)))) ?_
    refine wq_val (gd_f rfl rfl rfl) rfl (val_loadB (.tail _ (.tail _ (.head _))) (lk rfl) ag_27) ?_
    refine wq_val (gd_f rfl rfl rfl) rfl (val_move (lk rfl)) ?_
    refine wq_val (gd_f rfl rfl rfl) rfl (val_move (lk rfl)) ?_
    refine wq_val (gd_f rfl rfl rfl) rfl (val_index es_44 (lkg rfl) (lkg rfl) (fun hG => rfl) (fun hG => (by omega))) ?_
    refine wq_val (gd_f rfl rfl rfl) rfl (val_loadN ag_36 (lkg rfl) rfl (own_rec (.tail _ (.tail _ (.tail _ (.tail _ (.head _))))) encB_len d0B (fun hG => by first | omega | (have h9 := of_decide_eq_true hG; omega) | (simp at hG; omega)))) ?_
    refine wq_call (gd_f rfl rfl rfl) rfl ci_21 (args2 (lkg rfl) (lkg rfl)) (fun hG w1 hw => Lim_c rs11 _ _ (nth d0B ys11 k) w1) ?_
    refine wq_val (gd_f rfl rfl rfl) rfl (val_neqK (ns := encB (nth d0B (limS rs11 ys11 ys11.length) k)) (ms := encB (limB rs11 (nth d0B ys11 k))) eqk_36 ist_36 egt_36 (lkg rfl) (lkg rfl) rfl rfl) ?_
    refine wq_v rfl (val_or (lk rfl) (lkg rfl)) ?_
    refine wq_nil ?_
    refine px_then ?_
    refine wc_cond (lk rfl) (fun hc3 => ?_) (fun hc3 => ?_)
    · (exfalso; rw [hXk] at hc3; have h9 := lim_row rs11 (nth d0B ys11 k); exact Bool.noConfusion (hc3.symm.trans h9))
    refine wc_skip ?_
    refine px_block ?_
    refine px_then ?_
    refine wc_region ?_
    refine wl_v rfl (val_move (lk rfl)) ?_
    refine wl_v rfl (val_inc (lk rfl) (by omega)) ?_
    refine wl_v rfl (val_assign (lk rfl)) ?_
    refine wl_nil ?_
    refine px_round0 (k + 1) (by omega) (by omega) (⟨rfl, rfl, rfl, rfl, rfl, rfl, trivial⟩) (fun _ h => h.dropN 0 rfl)
  refine wc_exit ?_
  refine px_then_exit ?_
  refine px_then_exit ?_
  refine px_block_exit ?_
  refine px_then ?_
  refine wc_seq ?_
  refine wc_region ?_
  refine wl_v rfl (val_loadB (.tail _ (.tail _ (.head _))) (lk rfl) ag_27) ?_
  refine wl_v rfl (val_move (lk rfl)) ?_
  refine wl_call gd_none rfl ci_26 (args2 (lk rfl) (lk rfl)) (fun hG w1 hw => Within_c rs11 ys11 _ _ 0 0 _ _ _ _ w1 (Sl.own hw (.tail _ (.tail _ (.tail _ (.tail _ (.head _)))))) (by omega)) ?_
  refine wl_v rfl (val_move (lk rfl)) ?_
  refine wl_v rfl (val_move (lk rfl)) ?_
  refine wl_call gd_none rfl ci_35 (args2 (lk rfl) (lk rfl)) (fun hG w1 hw => sameB_c (limS rs11 ys11 ys11.length) ys11 _ _ _ _ _ _ _ _ w1 (Sl.own hw (.tail _ (.head _))) (Sl.own hw (.tail _ (.tail _ (.tail _ (.tail _ (.head _)))))) (by omega)) ?_
  refine wl_v rfl (val_eqlB Try.underlying4 (lk rfl) (lk rfl)) ?_
  refine wl_v rfl (val_assign (lk rfl)) ?_
  refine wl_nil ?_
  refine px_then ?_
  refine wc_ret ?_
  refine fin1 rfl (res_tmp rfl) (fun w1 hw => ?_)
  exact ⟨congrArg (fun x => Ending.returned (.bool x)) (lim_fit rs11 ys11), hw.drop rfl⟩

end Go.Proofs.Ytlpiogbbplfliaa
