/- The laws on drawn quotas and accounts: walked. -/
import Derived.Test.YtdiojflamjppmaaSxLp
namespace Go.Proofs.Ytdiojflamjppmaa
open Go.RowKit

theorem sameAcc_c (a a2 : Acc) (A B : Option Addr) (b o c b2 o2 c2 : Nat) (w : World) (hs : Sl w A b o (flat encR a.res)) (hs2 : Sl w B b2 o2 (flat encR a2.res)) (hl : a.res.length ≤ 1048600) :
    Calls Try.prog 48 #[a.val A c, a2.val B c2] w fun e w' => e = .returned (.bool (a.eqb a2)) ∧ HP w [] w' := by
  refine calls_entry [] _ Try.func48 rfl Try.ntmps48 (HP.refl w) (env2 rfl) ?_
  refine wc_seq ?_
  refine wc_region ?_
  refine wl_box (lk rfl) rfl fun b1 => ?_
  refine wl_box (lk rfl) rfl fun b2 => ?_
  refine wl_v rfl (val_assign lkc) ?_
  refine wl_nil ?_
  refine px_then ?_
  refine wc_seq ?_
  refine wc_seq ?_
  refine wc_region ?_
  refine wl_v rfl (val_field fo_28_0 (lk rfl)) ?_
  refine wl_v rfl (val_load1 t1_3 (lk rfl) (cell_own (.tail _ (.head _)) fun _ => rfl)) ?_
  refine wl_v rfl (val_field fo_28_0 (lk rfl)) ?_
  refine wl_v rfl (val_load1 t1_3 (lk rfl) (cell_own (.head _) fun _ => rfl)) ?_
  refine wl_v rfl (val_neq (lk rfl) (lk rfl)) ?_
  refine wl_v rfl (val_move (lk rfl)) ?_
  refine wl_val (gd_f rfl rfl rfl) rfl (val_field fo_28_1 (lk rfl)) ?_
  refine wl_val (gd_f rfl rfl rfl) rfl (val_load1 t1_3 (lkg rfl) (cell_own (.tail _ (.head _)) fun _ => rfl)) ?_
  refine wl_val (gd_f rfl rfl rfl) rfl (val_field fo_28_1 (lk rfl)) ?_
  refine wl_val (gd_f rfl rfl rfl) rfl (val_load1 t1_3 (lkg rfl) (cell_own (.head _) fun _ => rfl)) ?_
  refine wl_val (gd_f rfl rfl rfl) rfl (val_neq (lkg rfl) (lkg rfl)) ?_
  refine wl_v rfl (val_or (lk rfl) (lkg rfl)) ?_
  refine wl_v rfl (val_move (lk rfl)) ?_
  refine wl_val (gd_f rfl rfl rfl) rfl (val_field fo_28_2 (lk rfl)) ?_
  refine wl_val (gd_f rfl rfl rfl) rfl (val_load1 t1_3 (lkg rfl) (cell_own (.tail _ (.head _)) fun _ => rfl)) ?_
  refine wl_val (gd_f rfl rfl rfl) rfl (val_field fo_28_2 (lk rfl)) ?_
  refine wl_val (gd_f rfl rfl rfl) rfl (val_load1 t1_3 (lkg rfl) (cell_own (.head _) fun _ => rfl)) ?_
  refine wl_val (gd_f rfl rfl rfl) rfl (val_neq (lkg rfl) (lkg rfl)) ?_
  refine wl_v rfl (val_or (lk rfl) (lkg rfl)) ?_
  refine wl_v rfl (val_move (lk rfl)) ?_
  refine wl_val (gd_f rfl rfl rfl) rfl (val_field fo_28_3 (lk rfl)) ?_
  refine wl_val (gd_f rfl rfl rfl) rfl (val_load1 t1_26 (lkg rfl) (cell_own (.tail _ (.head _)) fun _ => rfl)) ?_
  refine wl_val (gd_f rfl rfl rfl) rfl (val_len es_26 (lkg rfl)) ?_
  refine wl_val (gd_f rfl rfl rfl) rfl (val_field fo_28_3 (lk rfl)) ?_
  refine wl_val (gd_f rfl rfl rfl) rfl (val_load1 t1_26 (lkg rfl) (cell_own (.head _) fun _ => rfl)) ?_
  refine wl_val (gd_f rfl rfl rfl) rfl (val_len es_26 (lkg rfl)) ?_
  refine wl_val (gd_f rfl rfl rfl) rfl (val_neq (lkg rfl) (lkg rfl)) ?_
  refine wl_v rfl (val_or (lk rfl) (lkg rfl)) ?_
  refine wl_nil ?_
  refine px_then ?_
  refine wc_cond (lk rfl) (fun hc0 => ?_) (fun hc0 => ?_)
  · have hno : a.eqb a2 = false := by
      rw [Acc.eqb]; revert hc0
      simp only [bne]
      rcases Decidable.em (a.res.length = a2.res.length) with hl2 | hl2
      · rw [hl2]; cases (a.total == a2.total) <;> cases (a.avail == a2.avail) <;> cases (a.spent == a2.spent) <;> simp
      · rw [eqRows_ne hl2]; simp
    refine wc_seq ?_
    refine wc_region ?_
    refine wl_v rfl (val_assign lkc) ?_
    refine wl_nil ?_
    refine px_then ?_
    refine wc_ret ?_
    refine px_then_ret ?_
    refine fin1 rfl (res_tmp rfl) (fun w1 hw => ?_)
    exact ⟨by rw [hno], hw.drop rfl⟩
  have hxy : a.res.length = a2.res.length := by
    revert hc0; simp only [bne]
    cases (a.total == a2.total) <;> cases (a.avail == a2.avail) <;> cases (a.spent == a2.spent) <;> simp <;> omega
  have hhd : a.eqb a2 = eqRows eqR a.res a2.res := by
    rw [Acc.eqb]; revert hc0; simp only [bne]
    cases (a.total == a2.total) <;> cases (a.avail == a2.avail) <;> cases (a.spent == a2.spent) <;> simp
  refine wc_skip ?_
  refine px_then ?_
  refine wc_seq ?_
  refine wc_seq ?_
  refine wc_region ?_
  refine wl_v rfl (val_assign lkc) ?_
  refine wl_nil ?_
  refine px_then ?_
  refine wc_block ?_
  refine wc_trim (l' := [(2, _), (3, _), (4, _), (5, _)]) ⟨rfl, rfl, rfl, rfl, trivial⟩ ?_
  refine wc_loop0 (X := Nat) (fun k => k ≤ a.res.length ∧ eqRows eqR (a.res.drop k) (a2.res.drop k) = eqRows eqR a.res a2.res) (fun k => [(5, (true, .int .i64 (k : Nat)))]) (fun k => a.res.length - k) 0 (⟨Nat.zero_le _, rfl⟩) ⟨rfl, rfl, rfl, rfl, rfl, trivial⟩ ?_
  rintro k ⟨hk, ht⟩
  refine wc_seq ?_
  refine wc_seq ?_
  refine wc_region ?_
  refine wl_v rfl (val_move (lk rfl)) ?_
  refine wl_v rfl (val_field fo_28_3 (lk rfl)) ?_
  refine wl_v rfl (val_load1 t1_26 (lk rfl) (cell_own (.tail _ (.head _)) fun _ => rfl)) ?_
  refine wl_v rfl (val_len es_26 (lk rfl)) ?_
  refine wl_v rfl (val_lss (lk rfl) (lk rfl)) ?_
  refine wl_nil ?_
  refine px_then ?_
  refine wc_cond (lk rfl) (fun hc1 => ?_) (fun hc1 => ?_)
  · have hlt : k < a.res.length := by have := of_decide_eq_true hc1; omega
    refine wc_skip ?_
    refine px_then ?_
    refine wc_seq ?_
    refine wc_block ?_
    refine wc_seq ?_
    refine wc_region_q mo_ (by kernel_rfl) ?_
    refine wq_v rfl (val_field fo_28_3 (lk rfl)) ?_
    refine wq_v rfl (val_load1 t1_26 (lk rfl) (cell_own (.tail _ (.head _)) fun _ => rfl)) ?_
    refine wq_v rfl (val_move (lk rfl)) ?_
    refine wq_v rfl (val_index es_26 (lk rfl) (lk rfl) (fun hG => hs.hd encR_len (by decide) (i := k) (by first | omega | (have h9 := of_decide_eq_true hG; omega) | (simp at hG; omega))) (fun hG => by first | omega | (have h9 := of_decide_eq_true hG; omega) | (simp at hG; omega))) ?_
    refine wq_v rfl (val_loadN ag_71 (lk rfl) rfl (hs.rec_ rfl encR_len d0R (fun hG => by first | omega | (have h9 := of_decide_eq_true hG; omega) | (simp at hG; omega)))) ?_
    refine wq_v rfl (val_field fo_28_3 (lk rfl)) ?_
    refine wq_v rfl (val_load1 t1_26 (lk rfl) (cell_own (.head _) fun _ => rfl)) ?_
    refine wq_v rfl (val_move (lk rfl)) ?_
    refine wq_v rfl (val_index es_26 (lk rfl) (lk rfl) (fun hG => hs2.hd encR_len (by decide) (i := k) (by first | omega | (have h9 := of_decide_eq_true hG; omega) | (simp at hG; omega))) (fun hG => by first | omega | (have h9 := of_decide_eq_true hG; omega) | (simp at hG; omega))) ?_
    refine wq_v rfl (val_loadN ag_71 (lk rfl) rfl (hs2.rec_ rfl encR_len d0R (fun hG => by first | omega | (have h9 := of_decide_eq_true hG; omega) | (simp at hG; omega)))) ?_
    refine wq_v rfl (val_neqK eqk_71 ist_71 egt_71 (lk rfl) (lk rfl) rfl rfl) ?_
    refine wq_nil ?_
    refine px_then ?_
    refine wc_cond (lk rfl) (fun hc2 => ?_) (fun hc2 => ?_)
    · have hq : eqR (nth d0R a.res k) (nth d0R a2.res k) = false := by
        have h9 : (encR (nth d0R a.res k) != encR (nth d0R a2.res k)) = true := hc2
        rw [bne, encR_eq] at h9; simpa using h9
      refine wc_seq ?_
      refine wc_region ?_
      refine wl_v rfl (val_assign lkc) ?_
      refine wl_nil ?_
      refine px_then ?_
      refine wc_ret ?_
      refine px_block_ret ?_
      refine px_then_ret ?_
      refine px_then_ret ?_
      refine px_block_ret ?_
      refine px_then_ret ?_
      refine fin1 rfl (res_tmp rfl) (fun w1 hw => ?_)
      exact ⟨by rw [hhd, ← ht, eqRows_step (d := d0R) hlt (by omega), hq]; rfl, hw.drop rfl⟩
    have hq : eqR (nth d0R a.res k) (nth d0R a2.res k) = true := by
      have h9 : (encR (nth d0R a.res k) != encR (nth d0R a2.res k)) = false := hc2
      rw [bne, encR_eq] at h9; simpa using h9
    refine wc_skip ?_
    refine px_block ?_
    refine px_then ?_
    refine wc_region ?_
    refine wl_v rfl (val_move (lk rfl)) ?_
    refine wl_v rfl (val_inc (lk rfl) (by omega)) ?_
    refine wl_v rfl (val_assign (lk rfl)) ?_
    refine wl_nil ?_
    refine px_round0 (k + 1) (⟨by omega, by rw [← ht, eqRows_step (d := d0R) hlt (by omega), hq]; rfl⟩) (by omega) (⟨rfl, rfl, rfl, rfl, rfl, trivial⟩) (fun _ h => h.dropN 0 rfl)
  have hge : k = a.res.length := by have := of_decide_eq_false hc1; omega
  subst hge
  refine wc_exit ?_
  refine px_then_exit ?_
  refine px_then_exit ?_
  refine px_block_exit ?_
  refine px_then ?_
  refine wc_seq ?_
  refine wc_region ?_
  refine wl_v rfl (val_assign lkc) ?_
  refine wl_nil ?_
  refine px_then ?_
  refine wc_ret ?_
  refine fin1 rfl (res_tmp rfl) (fun w1 hw => ?_)
  have e1 : a.res.drop a.res.length = [] := by simp
  have e2 : a2.res.drop a.res.length = [] := by simp [hxy]
  exact ⟨by rw [hhd, ← ht, e1, e2]; rfl, hw.drop rfl⟩

theorem law_QuotaUse (A : Option Addr) (n b o c : Nat) (w : World) (hk : Cod w A n b o) :
    Calls Try.prog 9 #[.slice A n c] w fun e w' => e = .returned (.bool true) ∧ HP w [] w' := by
  refine calls_entry [] _ Try.func9 rfl Try.ntmps9 (HP.refl w) (env1 rfl) ?_
  refine wc_seq ?_
  refine wc_region ?_
  refine wl_v rfl (val_assign lkc) ?_
  refine wl_nil ?_
  refine px_then ?_
  refine wc_seq ?_
  refine wc_seq ?_
  refine wc_region ?_
  refine wl_v rfl (val_move (lk rfl)) ?_
  refine wl_call gd_none rfl ci_32 (args1 (lk rfl)) (fun hG w1 hw => big_c _ _ _ w1) ?_
  refine wl_nil ?_
  refine px_then ?_
  refine wc_cond (lk rfl) (fun hc0 => ?_) (fun hc0 => ?_)
  · refine wc_seq ?_
    refine wc_region ?_
    refine wl_v rfl (val_assign lkc) ?_
    refine wl_nil ?_
    refine px_then ?_
    refine wc_ret ?_
    refine px_then_ret ?_
    refine fin1 rfl (res_tmp rfl) (fun w1 hw => ?_)
    exact ⟨rfl, hw.drop rfl⟩
  have hn : n ≤ 1048576 := by have := of_decide_eq_false hc0; omega
  refine wc_skip ?_
  refine px_then ?_
  refine wc_seq ?_
  refine wc_region ?_
  refine wl_v rfl (val_move (lk rfl)) ?_
  refine wl_callx rfl ci_33 (args1 (lk rfl)) (fun w1 hw => DrawConsume_c _ _ _ _ _ w1 (hk.hp hw rfl)) (fun _ => rfl) ?_
  rintro ⟨rq13, rm13⟩ -
  refine wl_v rfl (val_move (lk rfl)) ?_
  refine wl_v rfl (val_extract (lk rfl) rfl) ?_
  refine wl_v rfl (val_extract (lk rfl) rfl) ?_
  refine wl_alloc zc_41 rfl fun b1 => ?_
  refine wl_storeB 0 rfl (lk rfl) (lk rfl) ag_41 rfl rfl ?_
  refine wl_v rfl (val_assign (lk rfl)) ?_
  refine wl_nil ?_
  refine px_then ?_
  refine wc_seq ?_
  refine wc_region ?_
  refine wl_v rfl (val_loadB (.head _) (lk rfl) ag_41) ?_
  refine wl_v rfl (val_move (lk rfl)) ?_
  refine wl_call gd_none rfl ci_34 (args2 (lk rfl) (lk rfl)) (fun hG w1 hw => ConsumeQuota_c rq13 rm13 w1) ?_
  refine wl_v rfl (val_move (lk rfl)) ?_
  refine wl_v rfl (val_extract (lk rfl) rfl) ?_
  refine wl_v rfl (val_extract (lk rfl) rfl) ?_
  refine wl_alloc zc_41 rfl fun b2 => ?_
  refine wl_storeB 0 rfl (lk rfl) (lk rfl) ag_41 rfl rfl ?_
  refine wl_v rfl (val_assign (lk rfl)) ?_
  refine wl_nil ?_
  refine px_then ?_
  refine wc_seq ?_
  refine wc_seq ?_
  refine wc_region ?_
  refine wl_v rfl (val_loadB (.tail _ (.head _)) (lk rfl) ag_41) ?_
  refine wl_call gd_none rfl ci_35 (args1 (lk rfl)) (fun hG w1 hw => sIsValidQuota_c rq13 w1) ?_
  refine wl_v rfl (val_not (lk rfl)) ?_
  refine wl_v rfl (val_move (lk rfl)) ?_
  refine wl_val (gd_f rfl rfl rfl) rfl (val_move (lk rfl)) ?_
  refine wl_val (gd_f rfl rfl rfl) rfl (val_lss (lkg rfl) lkc) ?_
  refine wl_v rfl (val_or (lk rfl) (lkg rfl)) ?_
  refine wl_v rfl (val_move (lk rfl)) ?_
  refine wl_val (gd_f rfl rfl rfl) rfl (val_move (lk rfl)) ?_
  refine wl_val (gd_f rfl rfl rfl) rfl (val_field fo_41_1 (lk rfl)) ?_
  refine wl_val (gd_f rfl rfl rfl) rfl (val_load1 t1_3 (lkg rfl) (cell_own (.tail _ (.head _)) fun _ => rfl)) ?_
  refine wl_val (gd_f rfl rfl rfl) rfl (val_field fo_41_2 (lk rfl)) ?_
  refine wl_val (gd_f rfl rfl rfl) rfl (val_load1 t1_3 (lkg rfl) (cell_own (.tail _ (.head _)) fun _ => rfl)) ?_
  refine wl_val (gd_f rfl rfl rfl) rfl (val_sub (lkg rfl) (lkg rfl)) ?_
  refine wl_val (gd_f rfl rfl rfl) rfl (val_gtr (lkg rfl) (lkg rfl)) ?_
  refine wl_v rfl (val_or (lk rfl) (lkg rfl)) ?_
  refine wl_nil ?_
  refine px_then ?_
  refine wc_cond (lk rfl) (fun hc1 => ?_) (fun hc1 => ?_)
  · have hno := quota_use_no hc1
    refine wc_seq ?_
    refine wc_region_q mo_ (by kernel_rfl) ?_
    refine wq_v rfl (val_move (lk rfl)) ?_
    refine wq_v rfl (val_not (lk rfl)) ?_
    refine wq_v rfl (val_move (lk rfl)) ?_
    refine wq_val (gd_t rfl rfl rfl) rfl (val_loadB (.head _) (lk rfl) ag_41) ?_
    refine wq_val (gd_t rfl rfl rfl) rfl (val_loadB (.tail _ (.head _)) (lk rfl) ag_41) ?_
    refine wq_val (gd_t rfl rfl rfl) rfl (val_eqlK (ns := [(rq13.use rm13).sid, (rq13.use rm13).granted, (rq13.use rm13).used]) (ms := [rq13.sid, rq13.granted, rq13.used]) eqk_41 ist_41 egt_41 (lkg rfl) (lkg rfl) rfl rfl) ?_
    refine wq_v rfl (val_and (lk rfl) (lkg rfl)) ?_
    refine wq_v rfl (val_move (lk rfl)) ?_
    refine wq_val (gd_t rfl rfl rfl) rfl (val_loadB (.tail _ (.head _)) (lk rfl) ag_41) ?_
    refine wq_call (gd_t rfl rfl rfl) rfl ci_36 (args1 (lkg rfl)) (fun hG w1 hw => RemainingQuota_c rq13 w1) ?_
    refine wq_val (gd_t rfl rfl rfl) rfl (val_loadB (.tail _ (.head _)) (lk rfl) ag_41) ?_
    refine wq_call (gd_t rfl rfl rfl) rfl ci_37 (args1 (lkg rfl)) (fun hG w1 hw => sRemainingQuota_c rq13 w1) ?_
    refine wq_val (gd_t rfl rfl rfl) rfl (val_eql (lkg rfl) (lkg rfl)) ?_
    refine wq_v rfl (val_and (lk rfl) (lkg rfl)) ?_
    refine wq_v rfl (val_assign (lk rfl)) ?_
    refine wq_nil ?_
    refine px_then ?_
    refine wc_ret ?_
    refine px_then_ret ?_
    refine fin1 rfl (res_tmp rfl) (fun w1 hw => ?_)
    exact ⟨congrArg (fun x => Ending.returned (Value.bool x)) (by rw [hno.1, hno.2]; simp), hw.drop rfl⟩
  have hyes : rq13.ok = true ∧ 0 ≤ rm13 ∧ rm13 ≤ IntKind.i64.wrap (rq13.granted - rq13.used) := by
    revert hc1; cases rq13.ok <;> simp
  refine wc_skip ?_
  refine px_then ?_
  refine wc_seq ?_
  refine wc_region_a0 11 mo_ rfl ?_
  refine wa_take 0 rfl (by kernel_rfl) (by kernel_rfl) (by kernel_rfl) (by kernel_rfl) (fun _ h => h.dropN 0 rfl) gd_none rfl (val_loadB (.head _) (lk rfl) ag_41) ?_
  refine wa_take 1 rfl (by kernel_rfl) (by kernel_rfl) (by kernel_rfl) (by kernel_rfl) (fun _ h => h.dropN 0 rfl) gd_none rfl (val_loadB (.head _) (lk rfl) ag_41) ?_
  refine wa_chn1 [(false, 2, 55), (true, 3, 56), (false, 4, 57), (true, 5, 52), (true, 6, 58), (true, 7, 59)] 8 7 7 [2, 3, 4, 5, 6, 7, 8] (fun _ h => h.dropN 0 rfl) (by kernel_rfl) (by kernel_rfl) rfl rfl (fun _ _ => ops_alloc rfl zc_41 rfl) ?_
  refine ch_o (ops_call rfl rfl ci_36 (args1 (lk rfl)) (fun w1 hw => RemainingQuota_c (rq13.use rm13) w1)) ?_
  rintro _ _ ⟨rfl, rfl⟩
  refine ch_q rfl gd_none rfl (val_add (lk rfl) lkc) ?_
  refine ch_o (ops_call rfl rfl ci_34 (args2 (lk rfl) (lk rfl)) (fun w1 hw => ConsumeQuota_c (rq13.use rm13) _ w1)) ?_
  rintro _ _ ⟨rfl, rfl⟩
  refine ch_q rfl gd_none rfl (val_move (lk rfl)) ?_
  refine ch_q rfl gd_none rfl (val_extract (lk rfl) rfl) ?_
  refine ch_q rfl gd_none rfl (val_extract (lk rfl) rfl) ?_
  refine ch_nil ?_
  rintro _ _ ⟨b3, rfl, rfl⟩
  refine wa_only 9 (by kernel_rfl) rfl ?_
  refine wl_storeB 0 rfl (lk rfl) (lk rfl) ag_41 rfl rfl ?_
  refine wl_nil (px_qn (fun _ h => h.dropN 1 rfl) ?_)
  refine wa_take 10 rfl (by kernel_rfl) (by kernel_rfl) (by kernel_rfl) (by kernel_rfl) (fun _ h => h.dropN 1 rfl) gd_none rfl (val_assign (lk rfl)) ?_
  refine wa_done (by kernel_rfl) ?_
  refine px_then ?_
  refine wc_seq ?_
  refine wc_region_q mo_ (by kernel_rfl) ?_
  refine wq_v rfl (val_move (lk rfl)) ?_
  refine wq_v rfl (val_move (lk rfl)) ?_
  refine wq_val (gd_t rfl rfl rfl) rfl (val_loadB (.tail _ (.head _)) (lk rfl) ag_41) ?_
  refine wq_call (gd_t rfl rfl rfl) rfl ci_38 (args1 (lkg rfl)) (fun hG w1 hw => IsValidQuota_c (rq13.use rm13) w1) ?_
  refine wq_v rfl (val_and (lk rfl) (lkg rfl)) ?_
  refine wq_v rfl (val_move (lk rfl)) ?_
  refine wq_val (gd_t rfl rfl rfl) rfl (val_loadB (.tail _ (.head _)) (lk rfl) ag_41) ?_
  refine wq_call (gd_t rfl rfl rfl) rfl ci_36 (args1 (lkg rfl)) (fun hG w1 hw => RemainingQuota_c (rq13.use rm13) w1) ?_
  refine wq_val (gd_t rfl rfl rfl) rfl (val_field fo_41_1 (lk rfl)) ?_
  refine wq_val (gd_t rfl rfl rfl) rfl (val_load1 t1_3 (lkg rfl) (cell_own (.tail _ (.tail _ (.head _))) fun _ => rfl)) ?_
  refine wq_val (gd_t rfl rfl rfl) rfl (val_field fo_41_2 (lk rfl)) ?_
  refine wq_val (gd_t rfl rfl rfl) rfl (val_load1 t1_3 (lkg rfl) (cell_own (.tail _ (.tail _ (.head _))) fun _ => rfl)) ?_
  refine wq_val (gd_t rfl rfl rfl) rfl (val_sub (lkg rfl) (lkg rfl)) ?_
  refine wq_val (gd_t rfl rfl rfl) rfl (val_move (lk rfl)) ?_
  refine wq_val (gd_t rfl rfl rfl) rfl (val_sub (lkg rfl) (lkg rfl)) ?_
  refine wq_val (gd_t rfl rfl rfl) rfl (val_eql (lkg rfl) (lkg rfl)) ?_
  refine wq_v rfl (val_and (lk rfl) (lkg rfl)) ?_
  refine wq_v rfl (val_move (lk rfl)) ?_
  refine wq_val (gd_t rfl rfl rfl) rfl (val_field fo_41_2 (lk rfl)) ?_
  refine wq_val (gd_t rfl rfl rfl) rfl (val_load1 t1_3 (lkg rfl) (cell_own (.tail _ (.head _)) fun _ => rfl)) ?_
  refine wq_val (gd_t rfl rfl rfl) rfl (val_field fo_41_2 (lk rfl)) ?_
  refine wq_val (gd_t rfl rfl rfl) rfl (val_load1 t1_3 (lkg rfl) (cell_own (.tail _ (.tail _ (.head _))) fun _ => rfl)) ?_
  refine wq_val (gd_t rfl rfl rfl) rfl (val_move (lk rfl)) ?_
  refine wq_val (gd_t rfl rfl rfl) rfl (val_add (lkg rfl) (lkg rfl)) ?_
  refine wq_val (gd_t rfl rfl rfl) rfl (val_eql (lkg rfl) (lkg rfl)) ?_
  refine wq_v rfl (val_and (lk rfl) (lkg rfl)) ?_
  refine wq_v rfl (val_move (lk rfl)) ?_
  refine wq_val (gd_t rfl rfl rfl) rfl (val_move (lk rfl)) ?_
  refine wq_val (gd_t rfl rfl rfl) rfl (val_not (lkg rfl)) ?_
  refine wq_v rfl (val_and (lk rfl) (lkg rfl)) ?_
  refine wq_v rfl (val_assign (lk rfl)) ?_
  refine wq_nil ?_
  refine px_then ?_
  refine wc_ret ?_
  refine fin1 rfl (res_tmp rfl) (fun w1 hw => ?_)
  exact ⟨congrArg (fun x => Ending.returned (Value.bool x)) (quota_use_law hyes.1 hyes.2.1 hyes.2.2), hw.drop rfl⟩

theorem law_AccountLimits (A : Option Addr) (n b o c : Nat) (w : World) (hk : Cod w A n b o) :
    Calls Try.prog 12 #[.slice A n c] w fun e w' => e = .returned (.bool true) ∧ HP w [] w' := by
  refine calls_entry [] _ Try.func12 rfl Try.ntmps12 (HP.refl w) (env1 rfl) ?_
  refine wc_seq ?_
  refine wc_region ?_
  refine wl_v rfl (val_assign lkc) ?_
  refine wl_nil ?_
  refine px_then ?_
  refine wc_seq ?_
  refine wc_seq ?_
  refine wc_region ?_
  refine wl_v rfl (val_move (lk rfl)) ?_
  refine wl_call gd_none rfl ci_32 (args1 (lk rfl)) (fun hG w1 hw => big_c _ _ _ w1) ?_
  refine wl_nil ?_
  refine px_then ?_
  refine wc_cond (lk rfl) (fun hc0 => ?_) (fun hc0 => ?_)
  · refine wc_seq ?_
    refine wc_region ?_
    refine wl_v rfl (val_assign lkc) ?_
    refine wl_nil ?_
    refine px_then ?_
    refine wc_ret ?_
    refine px_then_ret ?_
    refine fin1 rfl (res_tmp rfl) (fun w1 hw => ?_)
    exact ⟨rfl, hw.drop rfl⟩
  have hn : n ≤ 1048576 := by have := of_decide_eq_false hc0; omega
  refine wc_skip ?_
  refine px_then ?_
  refine wc_seq ?_
  refine wc_region ?_
  refine wl_v rfl (val_move (lk rfl)) ?_
  refine wl_callx rfl ci_46 (args1 (lk rfl)) (fun w1 hw => DrawReserve_c _ _ _ _ _ w1 (hk.hp hw rfl)) (fun _ => rfl) ?_
  rintro ⟨⟨ra16, rA16, rc16, gr16, rT16, rcs16⟩, rid16, rn16⟩ ⟨hR16, hlen16⟩
  simp only [DA.row] at hR16
  simp only at hlen16
  refine wl_v rfl (val_move (lk rfl)) ?_
  refine wl_v rfl (val_extract (lk rfl) rfl) ?_
  refine wl_v rfl (val_extract (lk rfl) rfl) ?_
  refine wl_v rfl (val_extract (lk rfl) rfl) ?_
  refine wl_alloc zc_28 rfl fun b1 => ?_
  refine wl_storeB 0 rfl (lk rfl) (lk rfl) ag_28 rfl rfl ?_
  refine wl_v rfl (val_assign (lk rfl)) ?_
  refine wl_v rfl (val_assign (lk rfl)) ?_
  refine wl_nil ?_
  have hrl := rsv_len ra16 rid16 rn16
  have hdl1 := deb_len (ra16.rsv rid16 rn16) rid16 (IntKind.i64.wrap ((ra16.rsv rid16 rn16).held rid16 + 1))
  have hdl2 := deb_len (ra16.rsv rid16 rn16) rid16 (ra16.got rid16 rn16)
  refine px_then ?_
  refine wc_seq ?_
  refine wc_region ?_
  refine wl_v rfl (val_loadB (.head _) (lk rfl) ag_28) ?_
  refine wl_v rfl (val_move (lk rfl)) ?_
  refine wl_v rfl (val_move (lk rfl)) ?_
  refine wl_callx rfl ci_23 (args3 (lk rfl) (lk rfl) (lk rfl)) (fun w1 hw => Reserve_c ra16 _ _ _ _ rid16 rn16 w1 (hR16.sl hw (.tail _ (.head _))) (by omega)) (fun _ => rfl) ?_
  rintro ⟨gb24, gc24, gs24⟩ ⟨hgl24, hgc24⟩
  refine wl_v rfl (val_move (lk rfl)) ?_
  refine wl_v rfl (val_extract (lk rfl) rfl) ?_
  refine wl_v rfl (val_extract (lk rfl) rfl) ?_
  refine wl_alloc zc_28 rfl fun b2 => ?_
  refine wl_storeB 0 rfl (lk rfl) (lk rfl) ag_28 rfl rfl ?_
  refine wl_v rfl (val_assign (lk rfl)) ?_
  refine wl_nil ?_
  refine px_then ?_
  refine wc_seq ?_
  refine wc_seq ?_
  refine wc_region ?_
  refine wl_v rfl (val_loadB (.tail _ (.tail _ (.head _))) (lk rfl) ag_28) ?_
  refine wl_call gd_none rfl ci_47 (args1 (lk rfl)) (fun hG w1 hw => sIsValidAccount_c ra16 _ _ _ _ w1 (hR16.sl hw (.tail _ (.tail _ (.tail _ (.head _))))) (by omega)) ?_
  refine wl_v rfl (val_not (lk rfl)) ?_
  refine wl_v rfl (val_move (lk rfl)) ?_
  refine wl_val (gd_f rfl rfl rfl) rfl (val_move (lk rfl)) ?_
  refine wl_val (gd_f rfl rfl rfl) rfl (val_lss (lkg rfl) lkc) ?_
  refine wl_v rfl (val_or (lk rfl) (lkg rfl)) ?_
  refine wl_v rfl (val_move (lk rfl)) ?_
  refine wl_val (gd_f rfl rfl rfl) rfl (val_move (lk rfl)) ?_
  refine wl_val (gd_f rfl rfl rfl) rfl (val_lss (lkg rfl) lkc) ?_
  refine wl_v rfl (val_or (lk rfl) (lkg rfl)) ?_
  refine wl_v rfl (val_move (lk rfl)) ?_
  refine wl_val (gd_f rfl rfl rfl) rfl (val_move (lk rfl)) ?_
  refine wl_val (gd_f rfl rfl rfl) rfl (val_gtr (lkg rfl) lkc) ?_
  refine wl_v rfl (val_or (lk rfl) (lkg rfl)) ?_
  refine wl_v rfl (val_move (lk rfl)) ?_
  refine wl_val (gd_f rfl rfl rfl) rfl (val_field fo_28_1 (lk rfl)) ?_
  refine wl_val (gd_f rfl rfl rfl) rfl (val_load1 t1_3 (lkg rfl) (cell_own (.tail _ (.tail _ (.head _))) fun _ => rfl)) ?_
  refine wl_val (gd_f rfl rfl rfl) rfl (val_eql (lkg rfl) lkc) ?_
  refine wl_v rfl (val_or (lk rfl) (lkg rfl)) ?_
  refine wl_v rfl (val_move (lk rfl)) ?_
  refine wl_val (gd_f rfl rfl rfl) rfl (val_loadB (.tail _ (.tail _ (.head _))) (lk rfl) ag_28) ?_
  refine wl_val (gd_f rfl rfl rfl) rfl (val_move (lk rfl)) ?_
  refine wl_call (gd_f rfl rfl rfl) rfl ci_45 (args2 (lkg rfl) (lkg rfl)) (fun hG w1 hw => sReservedFor_c ra16 _ _ _ _ rid16 w1 (hR16.sl hw (.tail _ (.tail _ (.tail _ (.head _))))) (by omega)) ?_
  refine wl_val (gd_f rfl rfl rfl) rfl (val_eql (lkg rfl) lkc) ?_
  refine wl_val (gd_f rfl rfl rfl) rfl (val_move (lkg rfl)) ?_
  refine wl_val (gd_gt rfl rfl rfl) rfl (val_field fo_28_3 (lk rfl)) ?_
  refine wl_val (gd_gt rfl rfl rfl) rfl (val_load1 t1_26 (lkg rfl) (cell_own (.tail _ (.tail _ (.head _))) fun _ => rfl)) ?_
  refine wl_val (gd_gt rfl rfl rfl) rfl (val_len es_26 (lkg rfl)) ?_
  refine wl_val (gd_gt rfl rfl rfl) rfl (val_geq (lkg rfl) lkc) ?_
  refine wl_val (gd_f rfl rfl rfl) rfl (val_and (lkg rfl) (lkg rfl)) ?_
  refine wl_v rfl (val_or (lk rfl) (lkg rfl)) ?_
  refine wl_nil ?_
  refine px_then ?_
  refine wc_cond (lk rfl) (fun hc1 => ?_) (fun hc1 => ?_)
  · have hno := limits_no hc1
    refine wc_seq ?_
    refine wc_region ?_
    refine wl_v rfl (val_move (lk rfl)) ?_
    refine wl_v rfl (val_eql (lk rfl) lkc) ?_
    refine wl_v rfl (val_move (lk rfl)) ?_
    refine wl_val (gd_t rfl rfl rfl) rfl (val_loadB (.head _) (lk rfl) ag_28) ?_
    refine wl_val (gd_t rfl rfl rfl) rfl (val_loadB (.tail _ (.tail _ (.head _))) (lk rfl) ag_28) ?_
    refine wl_call (gd_t rfl rfl rfl) rfl ci_48 (args2 (lkg rfl) (lkg rfl)) (fun hG w1 hw => sameAcc_c (ra16.rsv rid16 rn16) ra16 _ _ _ _ _ _ _ _ w1 (Sl.own hw (.tail _ (.head _))) (hR16.sl hw (.tail _ (.tail _ (.tail _ (.head _))))) (by omega)) ?_
    refine wl_v rfl (val_and (lk rfl) (lkg rfl)) ?_
    refine wl_v rfl (val_assign (lk rfl)) ?_
    refine wl_nil ?_
    refine px_then ?_
    refine wc_ret ?_
    refine px_then_ret ?_
    refine fin1 rfl (res_tmp rfl) (fun w1 hw => ?_)
    exact ⟨congrArg (fun x => Ending.returned (Value.bool x)) (by rw [hno.1, hno.2, Acc.eqb_refl]; rfl), hw.drop rfl⟩
  have hyes := limits_can hc1
  have hlaw := limits_law hyes.1 hyes.2
  refine wc_skip ?_
  refine px_then ?_
  refine wc_seq ?_
  refine wc_region_a0 13 mo_ rfl ?_
  refine wa_take 0 rfl (by kernel_rfl) (by kernel_rfl) (by kernel_rfl) (by kernel_rfl) (fun _ h => h.dropN 0 rfl) gd_none rfl (val_loadB (.head _) (lk rfl) ag_28) ?_
  refine wa_take 1 rfl (by kernel_rfl) (by kernel_rfl) (by kernel_rfl) (by kernel_rfl) (fun _ h => h.dropN 0 rfl) gd_none rfl (val_move (lk rfl)) ?_
  refine wa_take 2 rfl (by kernel_rfl) (by kernel_rfl) (by kernel_rfl) (by kernel_rfl) (fun _ h => h.dropN 0 rfl) gd_none rfl (val_loadB (.head _) (lk rfl) ag_28) ?_
  refine wa_take 3 rfl (by kernel_rfl) (by kernel_rfl) (by kernel_rfl) (by kernel_rfl) (fun _ h => h.dropN 0 rfl) gd_none rfl (val_move (lk rfl)) ?_
  refine wa_chn1 [(false, 4, 71), (true, 5, 72), (false, 6, 73), (true, 7, 66), (true, 8, 74), (true, 9, 75)] 10 8 7 [4, 5, 6, 7, 8, 9, 10] (fun _ h => h.dropN 0 rfl) (by kernel_rfl) (by kernel_rfl) rfl rfl (fun _ _ => ops_alloc rfl zc_28 rfl) ?_
  refine ch_o (ops_call rfl rfl ci_43 (args2 (lk rfl) (lk rfl)) (fun w1 hw => ReservedFor_c (ra16.rsv rid16 rn16) _ _ _ _ rid16 w1 (Sl.own hw (.tail _ (.head _))) (by omega))) ?_
  rintro _ _ ⟨rfl, rfl⟩
  refine ch_q rfl gd_none rfl (val_add (lk rfl) lkc) ?_
  refine ch_o (ops_callx rfl rfl ci_21 (args3 (lk rfl) (lk rfl) (lk rfl)) (fun w1 hw => Debit_c (ra16.rsv rid16 rn16) _ _ _ _ rid16 (IntKind.i64.wrap ((ra16.rsv rid16 rn16).held rid16 + 1)) w1 (Sl.own hw (.tail _ (.head _))) (by omega)) (fun _ => rfl)) ?_
  rintro _ _ ⟨⟨gb73, gc73, gs73⟩, ⟨hgl73, hgc73⟩, rfl, rfl⟩
  refine ch_q rfl gd_none rfl (val_move (lk rfl)) ?_
  refine ch_q rfl gd_none rfl (val_extract (lk rfl) rfl) ?_
  refine ch_q rfl gd_none rfl (val_extract (lk rfl) rfl) ?_
  refine ch_nil ?_
  rintro _ _ ⟨b3, rfl, rfl⟩
  refine wa_only 11 (by kernel_rfl) rfl ?_
  refine wl_storeB 0 rfl (lk rfl) (lk rfl) ag_28 rfl rfl ?_
  refine wl_nil (px_qn (fun _ h => h.dropN 2 rfl) ?_)
  refine wa_take 12 rfl (by kernel_rfl) (by kernel_rfl) (by kernel_rfl) (by kernel_rfl) (fun _ h => h.dropN 2 rfl) gd_none rfl (val_assign (lk rfl)) ?_
  refine wa_done (by kernel_rfl) ?_
  refine px_then ?_
  refine wc_seq ?_
  refine wc_region ?_
  refine wl_v rfl (val_loadB (.tail _ (.tail _ (.head _))) (lk rfl) ag_28) ?_
  refine wl_v rfl (val_move (lk rfl)) ?_
  refine wl_v rfl (val_move (lk rfl)) ?_
  refine wl_callx rfl ci_21 (args3 (lk rfl) (lk rfl) (lk rfl)) (fun w1 hw => Debit_c (ra16.rsv rid16 rn16) _ _ _ _ rid16 (ra16.got rid16 rn16) w1 (Sl.own hw (.tail _ (.tail _ (.tail _ (.head _))))) (by omega)) (fun _ => rfl) ?_
  rintro ⟨gb80, gc80, gs80⟩ ⟨hgl80, hgc80⟩
  refine wl_v rfl (val_move (lk rfl)) ?_
  refine wl_v rfl (val_extract (lk rfl) rfl) ?_
  refine wl_v rfl (val_extract (lk rfl) rfl) ?_
  refine wl_alloc zc_28 rfl fun b4 => ?_
  refine wl_storeB 0 rfl (lk rfl) (lk rfl) ag_28 rfl rfl ?_
  refine wl_v rfl (val_assign (lk rfl)) ?_
  refine wl_nil ?_
  refine px_then ?_
  refine wc_seq ?_
  refine wc_region_q mo_ (by kernel_rfl) ?_
  refine wq_v rfl (val_move (lk rfl)) ?_
  refine wq_v rfl (val_move (lk rfl)) ?_
  refine wq_v rfl (val_field fo_28_1 (lk rfl)) ?_
  refine wq_v rfl (val_load1 t1_3 (lk rfl) (cell_own (.tail _ (.tail _ (.tail _ (.tail _ (.tail _ (.tail _ (.head _))))))) fun _ => rfl)) ?_
  refine wq_call gd_none rfl ci_49 (args2 (lk rfl) (lk rfl)) (fun hG w1 hw => sMin_c rn16 ra16.avail w1) ?_
  refine wq_v rfl (val_eql (lk rfl) (lk rfl)) ?_
  refine wq_v rfl (val_move (lk rfl)) ?_
  refine wq_val (gd_t rfl rfl rfl) rfl (val_loadB (.tail _ (.tail _ (.tail _ (.tail _ (.head _))))) (lk rfl) ag_28) ?_
  refine wq_call (gd_t rfl rfl rfl) rfl ci_42 (args1 (lkg rfl)) (fun hG w1 hw => IsValidAccount_c (ra16.rsv rid16 rn16) _ _ _ _ w1 (Sl.own hw (.tail _ (.tail _ (.tail _ (.tail _ (.tail _ (.head _))))))) (by omega)) ?_
  refine wq_v rfl (val_and (lk rfl) (lkg rfl)) ?_
  refine wq_v rfl (val_move (lk rfl)) ?_
  refine wq_val (gd_t rfl rfl rfl) rfl (val_move (lk rfl)) ?_
  refine wq_val (gd_t rfl rfl rfl) rfl (val_not (lkg rfl)) ?_
  refine wq_v rfl (val_and (lk rfl) (lkg rfl)) ?_
  refine wq_v rfl (val_move (lk rfl)) ?_
  refine wq_val (gd_t rfl rfl rfl) rfl (val_loadB (.tail _ (.tail _ (.head _))) (lk rfl) ag_28) ?_
  refine wq_val (gd_t rfl rfl rfl) rfl (val_loadB (.tail _ (.tail _ (.tail _ (.tail _ (.head _))))) (lk rfl) ag_28) ?_
  refine wq_call (gd_t rfl rfl rfl) rfl ci_48 (args2 (lkg rfl) (lkg rfl)) (fun hG w1 hw => sameAcc_c ((ra16.rsv rid16 rn16).deb rid16 (IntKind.i64.wrap ((ra16.rsv rid16 rn16).held rid16 + 1))) (ra16.rsv rid16 rn16) _ _ _ _ _ _ _ _ w1 (Sl.own hw (.tail _ (.tail _ (.tail _ (.head _))))) (Sl.own hw (.tail _ (.tail _ (.tail _ (.tail _ (.tail _ (.head _))))))) (by omega)) ?_
  refine wq_v rfl (val_and (lk rfl) (lkg rfl)) ?_
  refine wq_v rfl (val_move (lk rfl)) ?_
  refine wq_val (gd_t rfl rfl rfl) rfl (val_move (lk rfl)) ?_
  refine wq_v rfl (val_and (lk rfl) (lkg rfl)) ?_
  refine wq_v rfl (val_move (lk rfl)) ?_
  refine wq_val (gd_t rfl rfl rfl) rfl (val_field fo_28_2 (lk rfl)) ?_
  refine wq_val (gd_t rfl rfl rfl) rfl (val_load1 t1_3 (lkg rfl) (cell_own (.head _) fun _ => rfl)) ?_
  refine wq_val (gd_t rfl rfl rfl) rfl (val_field fo_28_2 (lk rfl)) ?_
  refine wq_val (gd_t rfl rfl rfl) rfl (val_load1 t1_3 (lkg rfl) (cell_own (.tail _ (.tail _ (.tail _ (.tail _ (.tail _ (.tail _ (.head _))))))) fun _ => rfl)) ?_
  refine wq_val (gd_t rfl rfl rfl) rfl (val_move (lk rfl)) ?_
  refine wq_val (gd_t rfl rfl rfl) rfl (val_add (lkg rfl) (lkg rfl)) ?_
  refine wq_val (gd_t rfl rfl rfl) rfl (val_eql (lkg rfl) (lkg rfl)) ?_
  refine wq_v rfl (val_and (lk rfl) (lkg rfl)) ?_
  refine wq_v rfl (val_move (lk rfl)) ?_
  refine wq_val (gd_t rfl rfl rfl) rfl (val_loadB (.head _) (lk rfl) ag_28) ?_
  refine wq_val (gd_t rfl rfl rfl) rfl (val_move (lk rfl)) ?_
  refine wq_call (gd_t rfl rfl rfl) rfl ci_43 (args2 (lkg rfl) (lkg rfl)) (fun hG w1 hw => ReservedFor_c ((ra16.rsv rid16 rn16).deb rid16 (ra16.got rid16 rn16)) _ _ _ _ rid16 w1 (Sl.own hw (.tail _ (.head _))) (by omega)) ?_
  refine wq_val (gd_t rfl rfl rfl) rfl (val_loadB (.tail _ (.tail _ (.tail _ (.tail _ (.tail _ (.tail _ (.head _))))))) (lk rfl) ag_28) ?_
  refine wq_val (gd_t rfl rfl rfl) rfl (val_move (lk rfl)) ?_
  refine wq_call (gd_t rfl rfl rfl) rfl ci_45 (args2 (lkg rfl) (lkg rfl)) (fun hG w1 hw => sReservedFor_c ra16 _ _ _ _ rid16 w1 (hR16.sl hw (.tail _ (.tail _ (.tail _ (.tail _ (.tail _ (.tail _ (.tail _ (.head _))))))))) (by omega)) ?_
  refine wq_val (gd_t rfl rfl rfl) rfl (val_eql (lkg rfl) (lkg rfl)) ?_
  refine wq_v rfl (val_and (lk rfl) (lkg rfl)) ?_
  refine wq_v rfl (val_assign (lk rfl)) ?_
  refine wq_nil ?_
  refine px_then ?_
  refine wc_ret ?_
  refine fin1 rfl (res_tmp rfl) (fun w1 hw => ?_)
  exact ⟨congrArg (fun x => Ending.returned (Value.bool x)) (hlaw), hw.drop rfl⟩

theorem law_QuotaMatches (A : Option Addr) (n b o c : Nat) (w : World) (hk : Cod w A n b o) :
    Calls Try.prog 10 #[.slice A n c] w fun e w' => e = .returned (.bool true) ∧ HP w [] w' := by
  refine calls_entry [] _ Try.func10 rfl Try.ntmps10 (HP.refl w) (env1 rfl) ?_
  refine wc_seq ?_
  refine wc_region ?_
  refine wl_v rfl (val_assign lkc) ?_
  refine wl_nil ?_
  refine px_then ?_
  refine wc_seq ?_
  refine wc_seq ?_
  refine wc_region ?_
  refine wl_v rfl (val_move (lk rfl)) ?_
  refine wl_call gd_none rfl ci_32 (args1 (lk rfl)) (fun hG w1 hw => big_c _ _ _ w1) ?_
  refine wl_nil ?_
  refine px_then ?_
  refine wc_cond (lk rfl) (fun hc0 => ?_) (fun hc0 => ?_)
  · refine wc_seq ?_
    refine wc_region ?_
    refine wl_v rfl (val_assign lkc) ?_
    refine wl_nil ?_
    refine px_then ?_
    refine wc_ret ?_
    refine px_then_ret ?_
    refine fin1 rfl (res_tmp rfl) (fun w1 hw => ?_)
    exact ⟨rfl, hw.drop rfl⟩
  have hn : n ≤ 1048576 := by have := of_decide_eq_false hc0; omega
  refine wc_skip ?_
  refine px_then ?_
  refine wc_seq ?_
  refine wc_region ?_
  refine wl_v rfl (val_move (lk rfl)) ?_
  refine wl_callx rfl ci_39 (args1 (lk rfl)) (fun w1 hw => DrawHolding_c _ _ _ _ _ w1 (hk.hp hw rfl)) (fun _ => rfl) ?_
  rintro ⟨⟨ra14, rA14, rc14, gr14, rT14, rcs14⟩, rq14⟩ ⟨hR14, hok14, hq14⟩
  simp only [DA.row] at hR14
  simp only at hok14 hq14
  refine wl_v rfl (val_move (lk rfl)) ?_
  refine wl_v rfl (val_extract (lk rfl) rfl) ?_
  refine wl_v rfl (val_extract (lk rfl) rfl) ?_
  refine wl_alloc zc_28 rfl fun b1 => ?_
  refine wl_alloc zc_41 rfl fun b2 => ?_
  refine wl_storeB 1 rfl (lk rfl) (lk rfl) ag_28 rfl rfl ?_
  refine wl_storeB 0 rfl (lk rfl) (lk rfl) ag_41 rfl rfl ?_
  refine wl_nil ?_
  refine px_then ?_
  refine wc_seq ?_
  refine wc_region_a0 14 mo_ rfl ?_
  refine wa_take 0 rfl (by kernel_rfl) (by kernel_rfl) (by kernel_rfl) (by kernel_rfl) (fun _ h => h.dropN 0 rfl) gd_none rfl (val_loadB (.tail _ (.head _)) (lk rfl) ag_28) ?_
  refine wa_take 1 rfl (by kernel_rfl) (by kernel_rfl) (by kernel_rfl) (by kernel_rfl) (fun _ h => h.dropN 0 rfl) gd_none rfl (val_loadB (.head _) (lk rfl) ag_41) ?_
  refine wa_take 2 rfl (by kernel_rfl) (by kernel_rfl) (by kernel_rfl) (by kernel_rfl) (fun _ h => h.dropN 0 rfl) gd_none rfl (val_move (lk rfl)) ?_
  refine wa_chn2 [(false, 3, 21), (true, 4, 22), (true, 5, 23), (false, 6, 24), (true, 7, 17), (true, 8, 25), (true, 9, 26)] 10 5 11 6 9 [3, 4, 5, 6, 7, 8, 9, 10, 11] (fun _ h => h.dropN 0 rfl) (by kernel_rfl) (by kernel_rfl) rfl rfl rfl rfl rfl (fun _ _ => ops_alloc rfl zc_28 rfl) (fun _ _ => ops_alloc rfl zc_41 rfl) ?_
  refine ch_o (ops_callx rfl rfl ci_40 (args2 (lk rfl) lkc) (fun w1 hw => at_c _ _ _ _ _ _ w1 (hk.hp hw rfl) hn (by omega)) (fun _ => rfl)) ?_
  rintro _ _ ⟨⟨x21, u21⟩, ⟨hx21a, hx21b⟩, rfl, rfl⟩
  simp only at hx21a hx21b
  refine ch_q rfl gd_none rfl (val_rem (lk rfl) lkc (fun _ => by decide)) ?_
  refine ch_q rfl gd_none rfl (val_add lkc (lk rfl)) ?_
  refine ch_o (ops_callx rfl rfl ci_29 (args3 (lk rfl) (lk rfl) (lk rfl)) (fun w1 hw => Request_c ra14 _ _ _ _ rq14 (IntKind.i64.wrap (1 + x21.tmod 30)) w1 (hR14.sl hw (.tail _ (.tail _ (.head _)))) (by have := (Acc.ok_parts hok14).2.1; omega)) (fun _ => rfl)) ?_
  rintro _ _ ⟨⟨gb24, gc24, gs24⟩, ⟨hgl24, hgc24⟩, rfl, rfl⟩
  refine ch_q rfl gd_none rfl (val_move (lk rfl)) ?_
  refine ch_q rfl gd_none rfl (val_extract (lk rfl) rfl) ?_
  refine ch_q rfl gd_none rfl (val_extract (lk rfl) rfl) ?_
  refine ch_nil ?_
  rintro _ _ ⟨b3, rfl, rfl⟩
  rintro _ _ ⟨b4, rfl, rfl⟩
  refine wa_only 12 (by kernel_rfl) rfl ?_
  refine wl_storeB 1 rfl (lk rfl) (lk rfl) ag_28 rfl rfl ?_
  refine wl_nil (px_qn (fun _ h => h.dropN 3 rfl) ?_)
  refine wa_only 13 (by kernel_rfl) rfl ?_
  refine wl_storeB 0 rfl (lk rfl) (lk rfl) ag_41 rfl rfl ?_
  refine wl_nil (px_qn (fun _ h => h.dropN 3 rfl) ?_)
  refine wa_done (by kernel_rfl) ?_
  obtain ⟨m1, m2, m3, m4, m5, m6, m7, m8, m9, m10, m11, m12, m13, m14, m15, m16⟩ := quota_match_law (n := (IntKind.i64.wrap (1 + x21.tmod 30))) hok14 hq14.1 hq14.2.1 hq14.2.2.1 hq14.2.2.2
  have hbl := (Acc.ok_parts m1).2.1
  have hcl := (Acc.ok_parts m7).2.1
  have hdl := (Acc.ok_parts m13).2.1
  refine px_then ?_
  refine wc_seq ?_
  refine wc_region ?_
  refine wl_v rfl (val_loadB (.tail _ (.head _)) (lk rfl) ag_28) ?_
  refine wl_v rfl (val_loadB (.head _) (lk rfl) ag_41) ?_
  refine wl_callx rfl ci_26 (args2 (lk rfl) (lk rfl)) (fun w1 hw => Report_c (reqA ra14 rq14 (IntKind.i64.wrap (1 + x21.tmod 30))) _ _ _ _ (reqQ ra14 rq14 (IntKind.i64.wrap (1 + x21.tmod 30))) w1 (Sl.own hw (.tail _ (.tail _ (.head _)))) (by omega)) (fun _ => rfl) ?_
  rintro ⟨gb30, gc30, gs30⟩ ⟨hgl30, hgc30⟩
  refine wl_v rfl (val_move (lk rfl)) ?_
  refine wl_v rfl (val_extract (lk rfl) rfl) ?_
  refine wl_v rfl (val_extract (lk rfl) rfl) ?_
  refine wl_alloc zc_28 rfl fun b5 => ?_
  refine wl_alloc zc_41 rfl fun b6 => ?_
  refine wl_storeB 1 rfl (lk rfl) (lk rfl) ag_28 rfl rfl ?_
  refine wl_storeB 0 rfl (lk rfl) (lk rfl) ag_41 rfl rfl ?_
  refine wl_nil ?_
  refine px_then ?_
  refine wc_seq ?_
  refine wc_region ?_
  refine wl_v rfl (val_loadB (.tail _ (.tail _ (.tail _ (.tail _ (.head _))))) (lk rfl) ag_28) ?_
  refine wl_v rfl (val_loadB (.tail _ (.tail _ (.tail _ (.head _)))) (lk rfl) ag_41) ?_
  refine wl_callx rfl ci_31 (args2 (lk rfl) (lk rfl)) (fun w1 hw => Close_c (reqA ra14 rq14 (IntKind.i64.wrap (1 + x21.tmod 30))) _ _ _ _ (reqQ ra14 rq14 (IntKind.i64.wrap (1 + x21.tmod 30))) w1 (Sl.own hw (.tail _ (.tail _ (.tail _ (.tail _ (.tail _ (.head _))))))) (by omega)) (fun _ => rfl) ?_
  rintro ⟨gb35, gc35, gs35⟩ ⟨hgl35, hgc35⟩
  refine wl_alloc zc_28 rfl fun b7 => ?_
  refine wl_storeB 0 rfl (lk rfl) (lk rfl) ag_28 rfl rfl ?_
  refine wl_nil ?_
  refine px_then ?_
  refine wc_seq ?_
  refine wc_seq ?_
  refine wc_region ?_
  refine wl_v rfl (val_loadB (.tail _ (.tail _ (.tail _ (.tail _ (.tail _ (.tail _ (.head _))))))) (lk rfl) ag_28) ?_
  refine wl_v rfl (val_loadB (.tail _ (.tail _ (.tail _ (.tail _ (.tail _ (.head _)))))) (lk rfl) ag_41) ?_
  refine wl_call gd_none rfl ci_41 (args2 (lk rfl) (lk rfl)) (fun hG w1 hw => Matches_c (reqA ra14 rq14 (IntKind.i64.wrap (1 + x21.tmod 30))) _ _ _ _ (reqQ ra14 rq14 (IntKind.i64.wrap (1 + x21.tmod 30))) w1 (Sl.own hw (.tail _ (.tail _ (.tail _ (.tail _ (.tail _ (.tail _ (.tail _ (.head _))))))))) (by omega)) ?_
  refine wl_v rfl (val_not (lk rfl)) ?_
  refine wl_v rfl (val_move (lk rfl)) ?_
  refine wl_val (gd_f rfl rfl rfl) rfl (val_field fo_41_2 (lk rfl)) ?_
  refine wl_val (gd_f rfl rfl rfl) rfl (val_load1 t1_3 (lkg rfl) (cell_own (.tail _ (.tail _ (.tail _ (.tail _ (.tail _ (.head _)))))) fun _ => rfl)) ?_
  refine wl_val (gd_f rfl rfl rfl) rfl (val_field fo_41_2 (lk rfl)) ?_
  refine wl_val (gd_f rfl rfl rfl) rfl (val_load1 t1_3 (lkg rfl) (cell_own (.tail _ (.tail _ (.tail _ (.tail _ (.tail _ (.tail _ (.tail _ (.tail _ (.head _))))))))) fun _ => rfl)) ?_
  refine wl_val (gd_f rfl rfl rfl) rfl (val_neq (lkg rfl) (lkg rfl)) ?_
  refine wl_v rfl (val_or (lk rfl) (lkg rfl)) ?_
  refine wl_v rfl (val_move (lk rfl)) ?_
  refine wl_val (gd_f rfl rfl rfl) rfl (val_field fo_41_1 (lk rfl)) ?_
  refine wl_val (gd_f rfl rfl rfl) rfl (val_load1 t1_3 (lkg rfl) (cell_own (.tail _ (.tail _ (.tail _ (.tail _ (.tail _ (.head _)))))) fun _ => rfl)) ?_
  refine wl_val (gd_f rfl rfl rfl) rfl (val_field fo_41_1 (lk rfl)) ?_
  refine wl_val (gd_f rfl rfl rfl) rfl (val_load1 t1_3 (lkg rfl) (cell_own (.tail _ (.tail _ (.tail _ (.tail _ (.tail _ (.tail _ (.tail _ (.tail _ (.head _))))))))) fun _ => rfl)) ?_
  refine wl_val (gd_f rfl rfl rfl) rfl (val_sub (lkg rfl) (lkg rfl)) ?_
  refine wl_val (gd_f rfl rfl rfl) rfl (val_field fo_28_1 (lk rfl)) ?_
  refine wl_val (gd_f rfl rfl rfl) rfl (val_load1 t1_3 (lkg rfl) (cell_own (.tail _ (.tail _ (.tail _ (.tail _ (.tail _ (.tail _ (.tail _ (.tail _ (.tail _ (.head _)))))))))) fun _ => rfl)) ?_
  refine wl_val (gd_f rfl rfl rfl) rfl (val_field fo_28_1 (lk rfl)) ?_
  refine wl_val (gd_f rfl rfl rfl) rfl (val_load1 t1_3 (lkg rfl) (cell_own (.tail _ (.tail _ (.tail _ (.tail _ (.tail _ (.tail _ (.head _))))))) fun _ => rfl)) ?_
  refine wl_val (gd_f rfl rfl rfl) rfl (val_sub (lkg rfl) (lkg rfl)) ?_
  refine wl_val (gd_f rfl rfl rfl) rfl (val_neq (lkg rfl) (lkg rfl)) ?_
  refine wl_v rfl (val_or (lk rfl) (lkg rfl)) ?_
  refine wl_v rfl (val_move (lk rfl)) ?_
  refine wl_val (gd_f rfl rfl rfl) rfl (val_field fo_41_1 (lk rfl)) ?_
  refine wl_val (gd_f rfl rfl rfl) rfl (val_load1 t1_3 (lkg rfl) (cell_own (.tail _ (.tail _ (.tail _ (.tail _ (.tail _ (.head _)))))) fun _ => rfl)) ?_
  refine wl_val (gd_f rfl rfl rfl) rfl (val_field fo_41_1 (lk rfl)) ?_
  refine wl_val (gd_f rfl rfl rfl) rfl (val_load1 t1_3 (lkg rfl) (cell_own (.tail _ (.tail _ (.tail _ (.tail _ (.tail _ (.tail _ (.tail _ (.tail _ (.head _))))))))) fun _ => rfl)) ?_
  refine wl_val (gd_f rfl rfl rfl) rfl (val_lss (lkg rfl) (lkg rfl)) ?_
  refine wl_v rfl (val_or (lk rfl) (lkg rfl)) ?_
  refine wl_nil ?_
  refine px_then ?_
  refine wc_cond (lk rfl) (fun hc1 => ?_) (fun hc1 => ?_)
  · (exfalso; revert hc1; rw [m1, m2, m3, m4, m5]; simp; omega)
  refine wc_skip ?_
  refine px_then ?_
  refine wc_seq ?_
  refine wc_seq ?_
  refine wc_region ?_
  refine wl_v rfl (val_loadB (.tail _ (.tail _ (.tail _ (.head _)))) (lk rfl) ag_28) ?_
  refine wl_v rfl (val_loadB (.tail _ (.tail _ (.head _))) (lk rfl) ag_41) ?_
  refine wl_call gd_none rfl ci_41 (args2 (lk rfl) (lk rfl)) (fun hG w1 hw => Matches_c (repA (reqA ra14 rq14 (IntKind.i64.wrap (1 + x21.tmod 30))) (reqQ ra14 rq14 (IntKind.i64.wrap (1 + x21.tmod 30)))) _ _ _ _ (repQ (reqA ra14 rq14 (IntKind.i64.wrap (1 + x21.tmod 30))) (reqQ ra14 rq14 (IntKind.i64.wrap (1 + x21.tmod 30)))) w1 (Sl.own hw (.tail _ (.tail _ (.tail _ (.tail _ (.head _)))))) (by omega)) ?_
  refine wl_v rfl (val_not (lk rfl)) ?_
  refine wl_v rfl (val_move (lk rfl)) ?_
  refine wl_val (gd_f rfl rfl rfl) rfl (val_field fo_41_2 (lk rfl)) ?_
  refine wl_val (gd_f rfl rfl rfl) rfl (val_load1 t1_3 (lkg rfl) (cell_own (.tail _ (.tail _ (.head _))) fun _ => rfl)) ?_
  refine wl_val (gd_f rfl rfl rfl) rfl (val_neq (lkg rfl) lkc) ?_
  refine wl_v rfl (val_or (lk rfl) (lkg rfl)) ?_
  refine wl_v rfl (val_move (lk rfl)) ?_
  refine wl_val (gd_f rfl rfl rfl) rfl (val_field fo_41_1 (lk rfl)) ?_
  refine wl_val (gd_f rfl rfl rfl) rfl (val_load1 t1_3 (lkg rfl) (cell_own (.tail _ (.tail _ (.head _))) fun _ => rfl)) ?_
  refine wl_val (gd_f rfl rfl rfl) rfl (val_field fo_41_1 (lk rfl)) ?_
  refine wl_val (gd_f rfl rfl rfl) rfl (val_load1 t1_3 (lkg rfl) (cell_own (.tail _ (.tail _ (.tail _ (.tail _ (.tail _ (.head _)))))) fun _ => rfl)) ?_
  refine wl_val (gd_f rfl rfl rfl) rfl (val_field fo_41_2 (lk rfl)) ?_
  refine wl_val (gd_f rfl rfl rfl) rfl (val_load1 t1_3 (lkg rfl) (cell_own (.tail _ (.tail _ (.tail _ (.tail _ (.tail _ (.head _)))))) fun _ => rfl)) ?_
  refine wl_val (gd_f rfl rfl rfl) rfl (val_sub (lkg rfl) (lkg rfl)) ?_
  refine wl_val (gd_f rfl rfl rfl) rfl (val_neq (lkg rfl) (lkg rfl)) ?_
  refine wl_v rfl (val_or (lk rfl) (lkg rfl)) ?_
  refine wl_v rfl (val_move (lk rfl)) ?_
  refine wl_val (gd_f rfl rfl rfl) rfl (val_field fo_28_2 (lk rfl)) ?_
  refine wl_val (gd_f rfl rfl rfl) rfl (val_load1 t1_3 (lkg rfl) (cell_own (.tail _ (.tail _ (.tail _ (.head _)))) fun _ => rfl)) ?_
  refine wl_val (gd_f rfl rfl rfl) rfl (val_field fo_28_2 (lk rfl)) ?_
  refine wl_val (gd_f rfl rfl rfl) rfl (val_load1 t1_3 (lkg rfl) (cell_own (.tail _ (.tail _ (.tail _ (.tail _ (.tail _ (.tail _ (.tail _ (.tail _ (.tail _ (.head _)))))))))) fun _ => rfl)) ?_
  refine wl_val (gd_f rfl rfl rfl) rfl (val_field fo_41_2 (lk rfl)) ?_
  refine wl_val (gd_f rfl rfl rfl) rfl (val_load1 t1_3 (lkg rfl) (cell_own (.tail _ (.tail _ (.tail _ (.tail _ (.tail _ (.tail _ (.tail _ (.tail _ (.head _))))))))) fun _ => rfl)) ?_
  refine wl_val (gd_f rfl rfl rfl) rfl (val_add (lkg rfl) (lkg rfl)) ?_
  refine wl_val (gd_f rfl rfl rfl) rfl (val_neq (lkg rfl) (lkg rfl)) ?_
  refine wl_v rfl (val_or (lk rfl) (lkg rfl)) ?_
  refine wl_nil ?_
  refine px_then ?_
  refine wc_cond (lk rfl) (fun hc2 => ?_) (fun hc2 => ?_)
  · (exfalso; revert hc2; rw [m7, m8, m9, m10, m11, m12]; simp)
  refine wc_skip ?_
  refine px_then ?_
  refine wc_seq ?_
  refine wc_region ?_
  refine wl_v rfl (val_loadB (.head _) (lk rfl) ag_28) ?_
  refine wl_call gd_none rfl ci_42 (args1 (lk rfl)) (fun hG w1 hw => IsValidAccount_c (cloA (reqA ra14 rq14 (IntKind.i64.wrap (1 + x21.tmod 30))) (reqQ ra14 rq14 (IntKind.i64.wrap (1 + x21.tmod 30)))) _ _ _ _ w1 (Sl.own hw (.tail _ (.head _))) (by omega)) ?_
  refine wl_v rfl (val_move (lk rfl)) ?_
  refine wl_val (gd_t rfl rfl rfl) rfl (val_loadB (.head _) (lk rfl) ag_28) ?_
  refine wl_val (gd_t rfl rfl rfl) rfl (val_field fo_41_0 (lk rfl)) ?_
  refine wl_val (gd_t rfl rfl rfl) rfl (val_load1 t1_3 (lkg rfl) (cell_own (.tail _ (.tail _ (.tail _ (.tail _ (.tail _ (.tail _ (.tail _ (.tail _ (.head _))))))))) fun _ => rfl)) ?_
  refine wl_call (gd_t rfl rfl rfl) rfl ci_43 (args2 (lkg rfl) (lkg rfl)) (fun hG w1 hw => ReservedFor_c (cloA (reqA ra14 rq14 (IntKind.i64.wrap (1 + x21.tmod 30))) (reqQ ra14 rq14 (IntKind.i64.wrap (1 + x21.tmod 30)))) _ _ _ _ rq14.sid w1 (Sl.own hw (.tail _ (.head _))) (by omega)) ?_
  refine wl_val (gd_t rfl rfl rfl) rfl (val_eql (lkg rfl) lkc) ?_
  refine wl_v rfl (val_and (lk rfl) (lkg rfl)) ?_
  refine wl_v rfl (val_move (lk rfl)) ?_
  refine wl_val (gd_t rfl rfl rfl) rfl (val_field fo_28_2 (lk rfl)) ?_
  refine wl_val (gd_t rfl rfl rfl) rfl (val_load1 t1_3 (lkg rfl) (cell_own (.head _) fun _ => rfl)) ?_
  refine wl_val (gd_t rfl rfl rfl) rfl (val_field fo_28_2 (lk rfl)) ?_
  refine wl_val (gd_t rfl rfl rfl) rfl (val_load1 t1_3 (lkg rfl) (cell_own (.tail _ (.tail _ (.tail _ (.head _)))) fun _ => rfl)) ?_
  refine wl_val (gd_t rfl rfl rfl) rfl (val_eql (lkg rfl) (lkg rfl)) ?_
  refine wl_v rfl (val_and (lk rfl) (lkg rfl)) ?_
  refine wl_v rfl (val_move (lk rfl)) ?_
  refine wl_val (gd_t rfl rfl rfl) rfl (val_field fo_28_1 (lk rfl)) ?_
  refine wl_val (gd_t rfl rfl rfl) rfl (val_load1 t1_3 (lkg rfl) (cell_own (.head _) fun _ => rfl)) ?_
  refine wl_val (gd_t rfl rfl rfl) rfl (val_field fo_28_1 (lk rfl)) ?_
  refine wl_val (gd_t rfl rfl rfl) rfl (val_load1 t1_3 (lkg rfl) (cell_own (.tail _ (.tail _ (.tail _ (.head _)))) fun _ => rfl)) ?_
  refine wl_val (gd_t rfl rfl rfl) rfl (val_field fo_41_1 (lk rfl)) ?_
  refine wl_val (gd_t rfl rfl rfl) rfl (val_load1 t1_3 (lkg rfl) (cell_own (.tail _ (.tail _ (.head _))) fun _ => rfl)) ?_
  refine wl_val (gd_t rfl rfl rfl) rfl (val_add (lkg rfl) (lkg rfl)) ?_
  refine wl_val (gd_t rfl rfl rfl) rfl (val_eql (lkg rfl) (lkg rfl)) ?_
  refine wl_v rfl (val_and (lk rfl) (lkg rfl)) ?_
  refine wl_v rfl (val_assign (lk rfl)) ?_
  refine wl_nil ?_
  refine px_then ?_
  refine wc_ret ?_
  refine fin1 rfl (res_tmp rfl) (fun w1 hw => ?_)
  exact ⟨congrArg (fun x => Ending.returned (Value.bool x)) (by rw [m13, m14, m15, m16]; simp), hw.drop rfl⟩


structure DC where
  d : DA
  k : Nat

theorem law_AccountConservation (A : Option Addr) (n b o c : Nat) (w : World) (hk : Cod w A n b o) :
    Calls Try.prog 11 #[.slice A n c] w fun e w' => e = .returned (.bool true) ∧ HP w [] w' := by
  refine calls_entry [] _ Try.func11 rfl Try.ntmps11 (HP.refl w) (env1 rfl) ?_
  refine wc_seq ?_
  refine wc_region ?_
  refine wl_v rfl (val_assign lkc) ?_
  refine wl_nil ?_
  refine px_then ?_
  refine wc_seq ?_
  refine wc_seq ?_
  refine wc_region ?_
  refine wl_v rfl (val_move (lk rfl)) ?_
  refine wl_call gd_none rfl ci_32 (args1 (lk rfl)) (fun hG w1 hw => big_c _ _ _ w1) ?_
  refine wl_nil ?_
  refine px_then ?_
  refine wc_cond (lk rfl) (fun hc0 => ?_) (fun hc0 => ?_)
  · refine wc_seq ?_
    refine wc_region ?_
    refine wl_v rfl (val_assign lkc) ?_
    refine wl_nil ?_
    refine px_then ?_
    refine wc_ret ?_
    refine px_then_ret ?_
    refine fin1 rfl (res_tmp rfl) (fun w1 hw => ?_)
    exact ⟨rfl, hw.drop rfl⟩
  have hn : n ≤ 1048576 := by have := of_decide_eq_false hc0; omega
  refine wc_skip ?_
  refine px_then ?_
  refine wc_seq ?_
  refine wc_region ?_
  refine wl_v rfl (val_move (lk rfl)) ?_
  refine wl_callx rfl ci_44 (args1 (lk rfl)) (fun w1 hw => DrawAccount_c _ _ _ _ _ w1 (hk.hp hw rfl)) (fun _ => rfl) ?_
  rintro ⟨ra18, rA18, rc18, gr18, rT18, rcs18⟩ ⟨hR18, hok18⟩
  simp only [DA.row] at hR18
  simp only at hok18
  refine wl_alloc zc_28 rfl fun b1 => ?_
  refine wl_storeB 0 rfl (lk rfl) (lk rfl) ag_28 rfl rfl ?_
  refine wl_nil ?_
  refine px_then ?_
  refine wc_seq ?_
  refine wc_region ?_
  refine wl_v rfl (val_loadB (.head _) (lk rfl) ag_28) ?_
  refine wl_alloc zc_28 rfl fun b2 => ?_
  refine wl_storeB 0 rfl (lk rfl) (lk rfl) ag_28 rfl rfl ?_
  refine wl_nil ?_
  refine px_then ?_
  refine wc_seq ?_
  refine wc_seq ?_
  refine wc_region ?_
  refine wl_v rfl (val_assign lkc) ?_
  refine wl_nil ?_
  refine px_then ?_
  refine wc_block ?_
  refine wc_trim (l' := [(0, _), (2, _), (3, _), (4, _), (5, _)]) ⟨rfl, rfl, rfl, rfl, rfl, trivial⟩ ?_
  refine wc_loopl (X := DC) (fun x => x.d.row ∧ x.d.a.ok = true ∧ x.d.a.total = ra18.total ∧ x.k ≤ 8) (fun x => [(5, (true, .int .i64 (x.k : Nat)))]) (fun x => [⟨x.d.g, true, x.d.T, x.d.cs⟩, ⟨b2, true, 28, accC x.d.a x.d.A x.d.c⟩, ⟨b1, true, 28, accC ra18 rA18 rc18⟩]) (fun x => 8 - x.k) ⟨⟨ra18, rA18, rc18, gr18, rT18, rcs18⟩, 0⟩ (⟨hR18, hok18, rfl, Nat.zero_le _⟩) ⟨rfl, rfl, rfl, rfl, rfl, rfl, trivial⟩ (fun _ h => h.perm (List.perm_append_comm (l₁ := [_, _]) (l₂ := [_]))) ?_
  rintro ⟨⟨ra, rA, rc, gr, rT, rcs⟩, k⟩ ⟨hR, hok, htot, hk8⟩
  simp only [DA.row] at hR
  simp only at hok htot hk8
  dsimp only
  have hln : ra.res.length ≤ 8 := (Acc.ok_parts hok).2.1
  have hpr := Acc.hd_parts hok
  refine wc_seq ?_
  refine wc_seq ?_
  refine wc_region ?_
  refine wl_v rfl (val_move (lk rfl)) ?_
  refine wl_v rfl (val_lss (lk rfl) lkc) ?_
  refine wl_nil ?_
  refine px_then ?_
  refine wc_cond (lk rfl) (fun hc1 => ?_) (fun hc1 => ?_)
  · have hlt : k < 8 := by have := of_decide_eq_true hc1; omega
    refine wc_skip ?_
    refine px_then ?_
    refine wc_seq ?_
    refine wc_block ?_
    refine wc_seq ?_
    refine wc_region ?_
    refine wl_v rfl (val_move (lk rfl)) ?_
    refine wl_v rfl (val_move (lk rfl)) ?_
    refine wl_callx rfl ci_40 (args2 (lk rfl) (lk rfl)) (fun w1 hw => at_c _ _ _ _ _ _ w1 (hk.hp hw rfl) hn (by omega)) (fun _ => rfl) ?_
    rintro ⟨x26, u26⟩ ⟨hx26a, hx26b⟩
    simp only at hx26a hx26b
    refine wl_v rfl (val_rem (lk rfl) lkc (fun _ => by decide)) ?_
    refine wl_v rfl (val_assign (lk rfl)) ?_
    refine wl_nil ?_
    have hid0 := Int.tmod_nonneg 4 hx26a
    have hid4 := Int.tmod_lt_of_pos x26 (show (0 : Int) < 4 by decide)
    have hheld := held_range hok (x26.tmod 4)
    refine px_then ?_
    refine wc_seq ?_
    refine wc_region ?_
    refine wl_v rfl (val_loadB (.tail _ (.head _)) (lk rfl) ag_28) ?_
    refine wl_v rfl (val_move (lk rfl)) ?_
    refine wl_call gd_none rfl ci_45 (args2 (lk rfl) (lk rfl)) (fun hG w1 hw => sReservedFor_c ra _ _ _ _ (x26.tmod 4) w1 (hR.sl hw (.head _)) (by omega)) ?_
    refine wl_v rfl (val_assign (lk rfl)) ?_
    refine wl_nil ?_
    refine px_then ?_
    refine wc_seq ?_
    refine wc_region ?_
    refine wl_v rfl (val_loadB (.tail _ (.head _)) (lk rfl) ag_28) ?_
    refine wl_alloc zc_28 rfl fun b3 => ?_
    refine wl_storeB 0 rfl (lk rfl) (lk rfl) ag_28 rfl rfl ?_
    refine wl_nil ?_
    refine px_then ?_
    refine wc_seq ?_
    refine wc_seq ?_
    refine wc_region ?_
    refine wl_v rfl (val_move (lk rfl)) ?_
    refine wl_v rfl (val_move (lk rfl)) ?_
    refine wl_v rfl (val_add (lk rfl) lkc) ?_
    refine wl_callx rfl ci_40 (args2 (lk rfl) (lk rfl)) (fun w1 hw => at_c _ _ _ _ _ _ w1 (hk.hp hw rfl) hn (by rw [wrap64_in' (by omega)]; omega)) (fun _ => rfl) ?_
    rintro ⟨x35, u35⟩ ⟨hx35a, hx35b⟩
    simp only at hx35a hx35b
    refine wl_v rfl (val_rem (lk rfl) lkc (fun _ => by decide)) ?_
    refine wl_nil ?_
    refine px_then ?_
    refine wc_block ?_
    refine wc_seq ?_
    refine wc_region ?_
    refine wl_v rfl (val_eql (lk rfl) lkc) ?_
    refine wl_v rfl (val_assign (lk rfl)) ?_
    refine wl_nil ?_
    refine px_then ?_
    refine wc_cond (lk rfl) (fun hc2 => ?_) (fun hc2 => ?_)
    · refine wc_seq ?_
      refine wc_region_a0 15 mo_ rfl ?_
      refine wa_take 0 rfl (by kernel_rfl) (by kernel_rfl) (by kernel_rfl) (by kernel_rfl) (fun _ h => h.dropN 0 rfl) gd_none rfl (val_loadB (.tail _ (.tail _ (.head _))) (lk rfl) ag_28) ?_
      refine wa_take 1 rfl (by kernel_rfl) (by kernel_rfl) (by kernel_rfl) (by kernel_rfl) (fun _ h => h.dropN 0 rfl) gd_none rfl (val_move (lk rfl)) ?_
      refine wa_take 2 rfl (by kernel_rfl) (by kernel_rfl) (by kernel_rfl) (by kernel_rfl) (fun _ h => h.dropN 0 rfl) gd_none rfl (val_move (lk rfl)) ?_
      refine wa_take 3 rfl (by kernel_rfl) (by kernel_rfl) (by kernel_rfl) (by kernel_rfl) (fun _ h => h.dropN 0 rfl) gd_none rfl (val_move (lk rfl)) ?_
      refine wa_take 4 rfl (by kernel_rfl) (by kernel_rfl) (by kernel_rfl) (by kernel_rfl) (fun _ h => h.dropN 0 rfl) gd_none rfl (val_add (lk rfl) lkc) ?_
      refine wa_chn1 [(false, 5, 69), (true, 6, 70), (true, 7, 71), (false, 8, 72), (true, 9, 63), (true, 10, 73), (true, 11, 74)] 12 9 8 [5, 6, 7, 8, 9, 10, 11, 12] (fun _ h => h.dropN 0 rfl) (by kernel_rfl) (by kernel_rfl) rfl rfl (fun _ _ => ops_alloc rfl zc_28 rfl) ?_
      refine ch_o (ops_callx rfl rfl ci_40 (args2 (lk rfl) (lk rfl)) (fun w1 hw => at_c _ _ _ _ _ _ w1 (hk.hp hw rfl) hn (by rw [wrap64_in' (by omega)]; omega)) (fun _ => rfl)) ?_
      rintro _ _ ⟨⟨x69, u69⟩, ⟨hx69a, hx69b⟩, rfl, rfl⟩
      simp only at hx69a hx69b
      refine ch_q rfl gd_none rfl (val_rem (lk rfl) lkc (fun _ => by decide)) ?_
      refine ch_q rfl gd_none rfl (val_add lkc (lk rfl)) ?_
      refine ch_o (ops_callx rfl rfl ci_23 (args3 (lk rfl) (lk rfl) (lk rfl)) (fun w1 hw => Reserve_c ra _ _ _ _ (x26.tmod 4) (IntKind.i64.wrap (1 + x69.tmod 20)) w1 (hR.sl hw (.tail _ (.head _))) (by omega)) (fun _ => rfl)) ?_
      rintro _ _ ⟨⟨gb72, gc72, gs72⟩, ⟨hgl72, hgc72⟩, rfl, rfl⟩
      refine ch_q rfl gd_none rfl (val_move (lk rfl)) ?_
      refine ch_q rfl gd_none rfl (val_extract (lk rfl) rfl) ?_
      refine ch_q rfl gd_none rfl (val_extract (lk rfl) rfl) ?_
      refine ch_nil ?_
      rintro _ _ ⟨b4, rfl, rfl⟩
      refine wa_only 13 (by kernel_rfl) rfl ?_
      refine wl_storeB 0 rfl (lk rfl) (lk rfl) ag_28 rfl rfl ?_
      refine wl_nil (px_qn (fun _ h => h.dropN 2 rfl) ?_)
      refine wa_take 14 rfl (by kernel_rfl) (by kernel_rfl) (by kernel_rfl) (by kernel_rfl) (fun _ h => h.dropN 2 rfl) gd_none rfl (val_assign (lk rfl)) ?_
      refine wa_done (by kernel_rfl) ?_
      obtain ⟨r1, r2, r3, r4, r5, r6, r7⟩ := rsv_ok (id := (x26.tmod 4)) (n := (IntKind.i64.wrap (1 + x69.tmod 20))) hok
      have hl1 := r1
      have hl2 := r2
      have hln2 := (Acc.ok_parts r1).2.1
      refine px_then ?_
      refine wc_seq ?_
      refine wc_seq ?_
      refine wc_region ?_
      refine wl_v rfl (val_move (lk rfl)) ?_
      refine wl_v rfl (val_field fo_28_1 (lk rfl)) ?_
      refine wl_v rfl (val_load1 t1_3 (lk rfl) (cell_own (.tail _ (.tail _ (.tail _ (.tail _ (.head _))))) fun _ => rfl)) ?_
      refine wl_v rfl (val_field fo_28_1 (lk rfl)) ?_
      refine wl_v rfl (val_load1 t1_3 (lk rfl) (cell_own (.head _) fun _ => rfl)) ?_
      refine wl_v rfl (val_sub (lk rfl) (lk rfl)) ?_
      refine wl_v rfl (val_neq (lk rfl) (lk rfl)) ?_
      refine wl_v rfl (val_move (lk rfl)) ?_
      refine wl_val (gd_f rfl rfl rfl) rfl (val_loadB (.head _) (lk rfl) ag_28) ?_
      refine wl_val (gd_f rfl rfl rfl) rfl (val_move (lk rfl)) ?_
      refine wl_call (gd_f rfl rfl rfl) rfl ci_43 (args2 (lkg rfl) (lkg rfl)) (fun hG w1 hw => ReservedFor_c (ra.rsv (x26.tmod 4) (IntKind.i64.wrap (1 + x69.tmod 20))) _ _ _ _ (x26.tmod 4) w1 (Sl.own hw (.tail _ (.head _))) (by omega)) ?_
      refine wl_val (gd_f rfl rfl rfl) rfl (val_move (lk rfl)) ?_
      refine wl_val (gd_f rfl rfl rfl) rfl (val_move (lk rfl)) ?_
      refine wl_val (gd_f rfl rfl rfl) rfl (val_add (lkg rfl) (lkg rfl)) ?_
      refine wl_val (gd_f rfl rfl rfl) rfl (val_neq (lkg rfl) (lkg rfl)) ?_
      refine wl_v rfl (val_or (lk rfl) (lkg rfl)) ?_
      refine wl_v rfl (val_move (lk rfl)) ?_
      refine wl_val (gd_f rfl rfl rfl) rfl (val_field fo_28_2 (lk rfl)) ?_
      refine wl_val (gd_f rfl rfl rfl) rfl (val_load1 t1_3 (lkg rfl) (cell_own (.head _) fun _ => rfl)) ?_
      refine wl_val (gd_f rfl rfl rfl) rfl (val_field fo_28_2 (lk rfl)) ?_
      refine wl_val (gd_f rfl rfl rfl) rfl (val_load1 t1_3 (lkg rfl) (cell_own (.tail _ (.tail _ (.tail _ (.tail _ (.head _))))) fun _ => rfl)) ?_
      refine wl_val (gd_f rfl rfl rfl) rfl (val_neq (lkg rfl) (lkg rfl)) ?_
      refine wl_v rfl (val_or (lk rfl) (lkg rfl)) ?_
      refine wl_nil ?_
      refine px_then ?_
      refine wc_cond (lk rfl) (fun hc3 => ?_) (fun hc3 => ?_)
      · (exfalso; revert hc3; rw [r3, r4, r5]; rw [wrap64_in' (i := ra.avail - (ra.avail - ra.got (x26.tmod 4) (IntKind.i64.wrap (1 + x69.tmod 20)))) (by omega), wrap64_in' (i := ra.held (x26.tmod 4) + ra.got (x26.tmod 4) (IntKind.i64.wrap (1 + x69.tmod 20))) (by omega)]; simp; omega)
      refine wc_skip ?_
      refine px_then ?_
      refine wc_region ?_
      refine wl_v rfl (val_loadB (.head _) (lk rfl) ag_28) ?_
      refine wl_storeB 2 rfl (lk rfl) (lk rfl) ag_28 rfl rfl ?_
      refine wl_nil ?_
      refine px_block ?_
      refine px_then ?_
      refine wc_seq ?_
      refine wc_seq ?_
      refine wc_region ?_
      refine wl_v rfl (val_loadB (.tail _ (.tail _ (.head _))) (lk rfl) ag_28) ?_
      refine wl_call gd_none rfl ci_42 (args1 (lk rfl)) (fun hG w1 hw => IsValidAccount_c _ _ _ _ _ w1 (Sl.own hw (.tail _ (.head _))) (by omega)) ?_
      refine wl_v rfl (val_not (lk rfl)) ?_
      refine wl_v rfl (val_move (lk rfl)) ?_
      refine wl_val (gd_f rfl rfl rfl) rfl (val_field fo_28_0 (lk rfl)) ?_
      refine wl_val (gd_f rfl rfl rfl) rfl (val_load1 t1_3 (lkg rfl) (cell_own (.tail _ (.tail _ (.head _))) fun _ => rfl)) ?_
      refine wl_val (gd_f rfl rfl rfl) rfl (val_field fo_28_0 (lk rfl)) ?_
      refine wl_val (gd_f rfl rfl rfl) rfl (val_load1 t1_3 (lkg rfl) (cell_own (.tail _ (.tail _ (.tail _ (.tail _ (.tail _ (.head _)))))) fun _ => rfl)) ?_
      refine wl_val (gd_f rfl rfl rfl) rfl (val_neq (lkg rfl) (lkg rfl)) ?_
      refine wl_v rfl (val_or (lk rfl) (lkg rfl)) ?_
      refine wl_nil ?_
      refine px_then ?_
      refine wc_cond (lk rfl) (fun hc4 => ?_) (fun hc4 => ?_)
      · (exfalso; revert hc4; rw [r1, r2, htot]; simp)
      refine wc_skip ?_
      refine px_then ?_
      refine wc_region ?_
      refine wl_v rfl (val_loadB (.tail _ (.tail _ (.head _))) (lk rfl) ag_28) ?_
      refine wl_storeB 4 rfl (lk rfl) (lk rfl) ag_28 rfl rfl ?_
      refine wl_nil ?_
      refine px_block ?_
      refine px_then ?_
      refine wc_region ?_
      refine wl_v rfl (val_move (lk rfl)) ?_
      refine wl_v rfl (val_inc (lk rfl) (by omega)) ?_
      refine wl_v rfl (val_assign (lk rfl)) ?_
      refine wl_nil ?_
      refine px_round (⟨⟨(ra.rsv (x26.tmod 4) (IntKind.i64.wrap (1 + x69.tmod 20))), some ⟨gb72, 0, none⟩, gc72, gb72, 71, flat encR (ra.rsv (x26.tmod 4) (IntKind.i64.wrap (1 + x69.tmod 20))).res ++ gs72⟩, k + 1⟩) (⟨RowG.own hgl72 hgc72, hl1, hl2.trans htot, by show k + 1 ≤ 8; omega⟩) (by show 8 - (k + 1) < 8 - k; omega) (⟨rfl, rfl, rfl, rfl, rfl, rfl, trivial⟩) (fun _ h => h.mask [false, true, false, false, true, true] rfl)
    refine wc_seq ?_
    refine wc_region ?_
    refine wl_v rfl (val_eql (lk rfl) lkc) ?_
    refine wl_v rfl (val_assign (lk rfl)) ?_
    refine wl_nil ?_
    refine px_then ?_
    refine wc_cond (lk rfl) (fun hc5 => ?_) (fun hc5 => ?_)
    · refine wc_seq ?_
      refine wc_region ?_
      refine wl_v rfl (val_move (lk rfl)) ?_
      refine wl_v rfl (val_move (lk rfl)) ?_
      refine wl_v rfl (val_add (lk rfl) lkc) ?_
      refine wl_callx rfl ci_40 (args2 (lk rfl) (lk rfl)) (fun w1 hw => at_c _ _ _ _ _ _ w1 (hk.hp hw rfl) hn (by rw [wrap64_in' (by omega)]; omega)) (fun _ => rfl) ?_
      rintro ⟨x104, u104⟩ ⟨hx104a, hx104b⟩
      simp only at hx104a hx104b
      refine wl_v rfl (val_move (lk rfl)) ?_
      refine wl_v rfl (val_add lkc (lk rfl)) ?_
      refine wl_v rfl (val_rem (lk rfl) (lk rfl) (fun _ => by rw [wrap64_in' (by omega)]; omega)) ?_
      refine wl_v rfl (val_assign (lk rfl)) ?_
      refine wl_nil ?_
      have hnd0 := Int.tmod_nonneg (IntKind.i64.wrap (1 + ra.held (x26.tmod 4))) hx104a
      have hnd1 := Int.tmod_lt_of_pos x104 (show 0 < IntKind.i64.wrap (1 + ra.held (x26.tmod 4)) by rw [wrap64_in' (by omega)]; omega)
      have hndl : (x104.tmod (IntKind.i64.wrap (1 + ra.held (x26.tmod 4)))) ≤ ra.held (x26.tmod 4) := by rw [wrap64_in' (i := 1 + ra.held (x26.tmod 4)) (by omega)] at hnd1 ⊢; omega
      have hmay : ra.may (x26.tmod 4) (x104.tmod (IntKind.i64.wrap (1 + ra.held (x26.tmod 4)))) = true := by rw [Acc.may, hok]; simp [inRange]; omega
      refine px_then ?_
      refine wc_seq ?_
      refine wc_region ?_
      refine wl_v rfl (val_loadB (.tail _ (.tail _ (.head _))) (lk rfl) ag_28) ?_
      refine wl_v rfl (val_move (lk rfl)) ?_
      refine wl_v rfl (val_move (lk rfl)) ?_
      refine wl_callx rfl ci_21 (args3 (lk rfl) (lk rfl) (lk rfl)) (fun w1 hw => Debit_c ra _ _ _ _ (x26.tmod 4) (x104.tmod (IntKind.i64.wrap (1 + ra.held (x26.tmod 4)))) w1 (hR.sl hw (.tail _ (.head _))) (by omega)) (fun _ => rfl) ?_
      rintro ⟨gb112, gc112, gs112⟩ ⟨hgl112, hgc112⟩
      refine wl_v rfl (val_move (lk rfl)) ?_
      refine wl_v rfl (val_extract (lk rfl) rfl) ?_
      refine wl_v rfl (val_extract (lk rfl) rfl) ?_
      refine wl_alloc zc_28 rfl fun b5 => ?_
      refine wl_storeB 0 rfl (lk rfl) (lk rfl) ag_28 rfl rfl ?_
      refine wl_v rfl (val_assign (lk rfl)) ?_
      refine wl_nil ?_
      obtain ⟨r1, r2, r4, r5⟩ := deb_ok (id := (x26.tmod 4)) (n := (x104.tmod (IntKind.i64.wrap (1 + ra.held (x26.tmod 4))))) hok
      have r5 := r5 hmay
      have hl1 := r1
      have hl2 := r2
      have hln2 := (Acc.ok_parts r1).2.1
      refine px_then ?_
      refine wc_seq ?_
      refine wc_seq ?_
      refine wc_region ?_
      refine wl_v rfl (val_move (lk rfl)) ?_
      refine wl_v rfl (val_not (lk rfl)) ?_
      refine wl_v rfl (val_move (lk rfl)) ?_
      refine wl_val (gd_f rfl rfl rfl) rfl (val_field fo_28_2 (lk rfl)) ?_
      refine wl_val (gd_f rfl rfl rfl) rfl (val_load1 t1_3 (lkg rfl) (cell_own (.head _) fun _ => rfl)) ?_
      refine wl_val (gd_f rfl rfl rfl) rfl (val_field fo_28_2 (lk rfl)) ?_
      refine wl_val (gd_f rfl rfl rfl) rfl (val_load1 t1_3 (lkg rfl) (cell_own (.tail _ (.tail _ (.tail _ (.tail _ (.head _))))) fun _ => rfl)) ?_
      refine wl_val (gd_f rfl rfl rfl) rfl (val_move (lk rfl)) ?_
      refine wl_val (gd_f rfl rfl rfl) rfl (val_add (lkg rfl) (lkg rfl)) ?_
      refine wl_val (gd_f rfl rfl rfl) rfl (val_neq (lkg rfl) (lkg rfl)) ?_
      refine wl_v rfl (val_or (lk rfl) (lkg rfl)) ?_
      refine wl_v rfl (val_move (lk rfl)) ?_
      refine wl_val (gd_f rfl rfl rfl) rfl (val_loadB (.head _) (lk rfl) ag_28) ?_
      refine wl_val (gd_f rfl rfl rfl) rfl (val_move (lk rfl)) ?_
      refine wl_call (gd_f rfl rfl rfl) rfl ci_43 (args2 (lkg rfl) (lkg rfl)) (fun hG w1 hw => ReservedFor_c (ra.deb (x26.tmod 4) (x104.tmod (IntKind.i64.wrap (1 + ra.held (x26.tmod 4))))) _ _ _ _ (x26.tmod 4) w1 (Sl.own hw (.tail _ (.head _))) (by omega)) ?_
      refine wl_val (gd_f rfl rfl rfl) rfl (val_move (lk rfl)) ?_
      refine wl_val (gd_f rfl rfl rfl) rfl (val_move (lk rfl)) ?_
      refine wl_val (gd_f rfl rfl rfl) rfl (val_sub (lkg rfl) (lkg rfl)) ?_
      refine wl_val (gd_f rfl rfl rfl) rfl (val_neq (lkg rfl) (lkg rfl)) ?_
      refine wl_v rfl (val_or (lk rfl) (lkg rfl)) ?_
      refine wl_v rfl (val_move (lk rfl)) ?_
      refine wl_val (gd_f rfl rfl rfl) rfl (val_field fo_28_1 (lk rfl)) ?_
      refine wl_val (gd_f rfl rfl rfl) rfl (val_load1 t1_3 (lkg rfl) (cell_own (.head _) fun _ => rfl)) ?_
      refine wl_val (gd_f rfl rfl rfl) rfl (val_field fo_28_1 (lk rfl)) ?_
      refine wl_val (gd_f rfl rfl rfl) rfl (val_load1 t1_3 (lkg rfl) (cell_own (.tail _ (.tail _ (.tail _ (.tail _ (.head _))))) fun _ => rfl)) ?_
      refine wl_val (gd_f rfl rfl rfl) rfl (val_neq (lkg rfl) (lkg rfl)) ?_
      refine wl_v rfl (val_or (lk rfl) (lkg rfl)) ?_
      refine wl_nil ?_
      refine px_then ?_
      refine wc_cond (lk rfl) (fun hc6 => ?_) (fun hc6 => ?_)
      · (exfalso; revert hc6; rw [r5.1, r5.2, r4, hmay]; rw [wrap64_in' (i := ra.spent + (x104.tmod (IntKind.i64.wrap (1 + ra.held (x26.tmod 4))))) (by omega), wrap64_in' (i := ra.held (x26.tmod 4) - (x104.tmod (IntKind.i64.wrap (1 + ra.held (x26.tmod 4))))) (by omega)]; simp)
      refine wc_skip ?_
      refine px_then ?_
      refine wc_region ?_
      refine wl_v rfl (val_loadB (.head _) (lk rfl) ag_28) ?_
      refine wl_storeB 2 rfl (lk rfl) (lk rfl) ag_28 rfl rfl ?_
      refine wl_nil ?_
      refine px_block ?_
      refine px_then ?_
      refine wc_seq ?_
      refine wc_seq ?_
      refine wc_region ?_
      refine wl_v rfl (val_loadB (.tail _ (.tail _ (.head _))) (lk rfl) ag_28) ?_
      refine wl_call gd_none rfl ci_42 (args1 (lk rfl)) (fun hG w1 hw => IsValidAccount_c _ _ _ _ _ w1 (Sl.own hw (.tail _ (.head _))) (by omega)) ?_
      refine wl_v rfl (val_not (lk rfl)) ?_
      refine wl_v rfl (val_move (lk rfl)) ?_
      refine wl_val (gd_f rfl rfl rfl) rfl (val_field fo_28_0 (lk rfl)) ?_
      refine wl_val (gd_f rfl rfl rfl) rfl (val_load1 t1_3 (lkg rfl) (cell_own (.tail _ (.tail _ (.head _))) fun _ => rfl)) ?_
      refine wl_val (gd_f rfl rfl rfl) rfl (val_field fo_28_0 (lk rfl)) ?_
      refine wl_val (gd_f rfl rfl rfl) rfl (val_load1 t1_3 (lkg rfl) (cell_own (.tail _ (.tail _ (.tail _ (.tail _ (.tail _ (.head _)))))) fun _ => rfl)) ?_
      refine wl_val (gd_f rfl rfl rfl) rfl (val_neq (lkg rfl) (lkg rfl)) ?_
      refine wl_v rfl (val_or (lk rfl) (lkg rfl)) ?_
      refine wl_nil ?_
      refine px_then ?_
      refine wc_cond (lk rfl) (fun hc7 => ?_) (fun hc7 => ?_)
      · (exfalso; revert hc7; rw [r1, r2, htot]; simp)
      refine wc_skip ?_
      refine px_then ?_
      refine wc_region ?_
      refine wl_v rfl (val_loadB (.tail _ (.tail _ (.head _))) (lk rfl) ag_28) ?_
      refine wl_storeB 4 rfl (lk rfl) (lk rfl) ag_28 rfl rfl ?_
      refine wl_nil ?_
      refine px_block ?_
      refine px_then ?_
      refine wc_region ?_
      refine wl_v rfl (val_move (lk rfl)) ?_
      refine wl_v rfl (val_inc (lk rfl) (by omega)) ?_
      refine wl_v rfl (val_assign (lk rfl)) ?_
      refine wl_nil ?_
      refine px_round (⟨⟨(ra.deb (x26.tmod 4) (x104.tmod (IntKind.i64.wrap (1 + ra.held (x26.tmod 4))))), some ⟨gb112, 0, none⟩, gc112, gb112, 71, flat encR (ra.deb (x26.tmod 4) (x104.tmod (IntKind.i64.wrap (1 + ra.held (x26.tmod 4))))).res ++ gs112⟩, k + 1⟩) (⟨RowG.own hgl112 hgc112, hl1, hl2.trans htot, by show k + 1 ≤ 8; omega⟩) (by show 8 - (k + 1) < 8 - k; omega) (⟨rfl, rfl, rfl, rfl, rfl, rfl, trivial⟩) (fun _ h => h.mask [false, true, false, false, true, true] rfl)
    refine wc_seq ?_
    refine wc_region ?_
    refine wl_v rfl (val_loadB (.tail _ (.tail _ (.head _))) (lk rfl) ag_28) ?_
    refine wl_v rfl (val_move (lk rfl)) ?_
    refine wl_callx rfl ci_16 (args2 (lk rfl) (lk rfl)) (fun w1 hw => Release_c ra _ _ _ _ (x26.tmod 4) w1 (hR.sl hw (.tail _ (.head _))) (by omega)) (fun _ => rfl) ?_
    rintro ⟨gb39, gc39, gs39⟩ ⟨hgl39, hgc39⟩
    refine wl_alloc zc_28 rfl fun b6 => ?_
    refine wl_storeB 0 rfl (lk rfl) (lk rfl) ag_28 rfl rfl ?_
    refine wl_nil ?_
    obtain ⟨r1, r2, r3, r4, r5⟩ := rel_ok (id := (x26.tmod 4)) hok
    have hl1 := r1
    have hl2 := r2
    have hln2 := (Acc.ok_parts r1).2.1
    refine px_then ?_
    refine wc_seq ?_
    refine wc_seq ?_
    refine wc_region ?_
    refine wl_v rfl (val_field fo_28_1 (lk rfl)) ?_
    refine wl_v rfl (val_load1 t1_3 (lk rfl) (cell_own (.head _) fun _ => rfl)) ?_
    refine wl_v rfl (val_field fo_28_1 (lk rfl)) ?_
    refine wl_v rfl (val_load1 t1_3 (lk rfl) (cell_own (.tail _ (.tail _ (.tail _ (.tail _ (.head _))))) fun _ => rfl)) ?_
    refine wl_v rfl (val_move (lk rfl)) ?_
    refine wl_v rfl (val_add (lk rfl) (lk rfl)) ?_
    refine wl_v rfl (val_neq (lk rfl) (lk rfl)) ?_
    refine wl_v rfl (val_move (lk rfl)) ?_
    refine wl_val (gd_f rfl rfl rfl) rfl (val_loadB (.head _) (lk rfl) ag_28) ?_
    refine wl_val (gd_f rfl rfl rfl) rfl (val_move (lk rfl)) ?_
    refine wl_call (gd_f rfl rfl rfl) rfl ci_43 (args2 (lkg rfl) (lkg rfl)) (fun hG w1 hw => ReservedFor_c (ra.rel (x26.tmod 4)) _ _ _ _ (x26.tmod 4) w1 (Sl.own hw (.tail _ (.head _))) (by omega)) ?_
    refine wl_val (gd_f rfl rfl rfl) rfl (val_neq (lkg rfl) lkc) ?_
    refine wl_v rfl (val_or (lk rfl) (lkg rfl)) ?_
    refine wl_v rfl (val_move (lk rfl)) ?_
    refine wl_val (gd_f rfl rfl rfl) rfl (val_field fo_28_2 (lk rfl)) ?_
    refine wl_val (gd_f rfl rfl rfl) rfl (val_load1 t1_3 (lkg rfl) (cell_own (.head _) fun _ => rfl)) ?_
    refine wl_val (gd_f rfl rfl rfl) rfl (val_field fo_28_2 (lk rfl)) ?_
    refine wl_val (gd_f rfl rfl rfl) rfl (val_load1 t1_3 (lkg rfl) (cell_own (.tail _ (.tail _ (.tail _ (.tail _ (.head _))))) fun _ => rfl)) ?_
    refine wl_val (gd_f rfl rfl rfl) rfl (val_neq (lkg rfl) (lkg rfl)) ?_
    refine wl_v rfl (val_or (lk rfl) (lkg rfl)) ?_
    refine wl_nil ?_
    refine px_then ?_
    refine wc_cond (lk rfl) (fun hc8 => ?_) (fun hc8 => ?_)
    · (exfalso; revert hc8; rw [r3, r4, r5]; rw [wrap64_in' (by omega)]; simp)
    refine wc_skip ?_
    refine px_then ?_
    refine wc_region ?_
    refine wl_v rfl (val_loadB (.head _) (lk rfl) ag_28) ?_
    refine wl_storeB 2 rfl (lk rfl) (lk rfl) ag_28 rfl rfl ?_
    refine wl_nil ?_
    refine px_block ?_
    refine px_then ?_
    refine wc_seq ?_
    refine wc_seq ?_
    refine wc_region ?_
    refine wl_v rfl (val_loadB (.tail _ (.tail _ (.head _))) (lk rfl) ag_28) ?_
    refine wl_call gd_none rfl ci_42 (args1 (lk rfl)) (fun hG w1 hw => IsValidAccount_c _ _ _ _ _ w1 (Sl.own hw (.tail _ (.head _))) (by omega)) ?_
    refine wl_v rfl (val_not (lk rfl)) ?_
    refine wl_v rfl (val_move (lk rfl)) ?_
    refine wl_val (gd_f rfl rfl rfl) rfl (val_field fo_28_0 (lk rfl)) ?_
    refine wl_val (gd_f rfl rfl rfl) rfl (val_load1 t1_3 (lkg rfl) (cell_own (.tail _ (.tail _ (.head _))) fun _ => rfl)) ?_
    refine wl_val (gd_f rfl rfl rfl) rfl (val_field fo_28_0 (lk rfl)) ?_
    refine wl_val (gd_f rfl rfl rfl) rfl (val_load1 t1_3 (lkg rfl) (cell_own (.tail _ (.tail _ (.tail _ (.tail _ (.tail _ (.head _)))))) fun _ => rfl)) ?_
    refine wl_val (gd_f rfl rfl rfl) rfl (val_neq (lkg rfl) (lkg rfl)) ?_
    refine wl_v rfl (val_or (lk rfl) (lkg rfl)) ?_
    refine wl_nil ?_
    refine px_then ?_
    refine wc_cond (lk rfl) (fun hc9 => ?_) (fun hc9 => ?_)
    · (exfalso; revert hc9; rw [r1, r2, htot]; simp)
    refine wc_skip ?_
    refine px_then ?_
    refine wc_region ?_
    refine wl_v rfl (val_loadB (.tail _ (.tail _ (.head _))) (lk rfl) ag_28) ?_
    refine wl_storeB 4 rfl (lk rfl) (lk rfl) ag_28 rfl rfl ?_
    refine wl_nil ?_
    refine px_block ?_
    refine px_then ?_
    refine wc_region ?_
    refine wl_v rfl (val_move (lk rfl)) ?_
    refine wl_v rfl (val_inc (lk rfl) (by omega)) ?_
    refine wl_v rfl (val_assign (lk rfl)) ?_
    refine wl_nil ?_
    refine px_round (⟨⟨(ra.rel (x26.tmod 4)), some ⟨gb39, 0, none⟩, gc39, gb39, 71, flat encR (ra.rel (x26.tmod 4)).res ++ gs39⟩, k + 1⟩) (⟨RowG.own hgl39 hgc39, hl1, hl2.trans htot, by show k + 1 ≤ 8; omega⟩) (by show 8 - (k + 1) < 8 - k; omega) (⟨rfl, rfl, rfl, rfl, rfl, rfl, trivial⟩) (fun _ h => h.mask [false, true, false, false, true, true] rfl)
  refine wc_exit ?_
  refine px_then_exit ?_
  refine px_then_exit ?_
  refine px_block_exit ?_
  refine px_then ?_
  refine wc_seq ?_
  refine wc_region ?_
  refine wl_v rfl (val_assign lkc) ?_
  refine wl_nil ?_
  refine px_then ?_
  refine wc_ret ?_
  refine fin1 rfl (res_tmp rfl) (fun w1 hw => ?_)
  exact ⟨rfl, hw.drop rfl⟩

end Go.Proofs.Ytdiojflamjppmaa
