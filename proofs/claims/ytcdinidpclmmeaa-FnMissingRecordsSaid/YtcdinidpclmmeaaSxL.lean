/- The laws on drawn records, walked. -/
import Derived.Test.YtcdinidpclmmeaaSxLp
namespace Go.Proofs.Ytcdinidpclmmeaa
open Go.RowKit

theorem same_c (xs ys : List Rec) (A B : Option Addr) (b o c b2 o2 c2 : Nat) (w : World) (hs : Sl w A b o (flat encU xs)) (hs2 : Sl w B b2 o2 (flat encU ys)) (hl : xs.length ≤ 2097152) :
    Calls Try.prog 12 #[.slice A xs.length c, .slice B ys.length c2] w fun e w' => e = .returned (.bool (eqRows eqU xs ys)) ∧ HP w [] w' := by
  refine calls_entry [] _ Try.func12 rfl Try.ntmps12 (HP.refl w) (env2 rfl) ?_
  refine wc_seq ?_
  refine wc_region ?_
  refine wl_v rfl (val_assign lkc) ?_
  refine wl_nil ?_
  refine px_then ?_
  refine wc_seq ?_
  refine wc_seq ?_
  refine wc_region ?_
  refine wl_v rfl (val_move (lk rfl)) ?_
  refine wl_v rfl (val_len es_24 (lk rfl)) ?_
  refine wl_v rfl (val_move (lk rfl)) ?_
  refine wl_v rfl (val_len es_24 (lk rfl)) ?_
  refine wl_v rfl (val_neq (lk rfl) (lk rfl)) ?_
  refine wl_nil ?_
  refine px_then ?_
  refine wc_cond (lk rfl) (fun hc0 => ?_) (fun hc0 => ?_)
  · refine wc_seq ?_
    refine wc_region ?_
    refine wl_v rfl (val_assign lkc) ?_
    refine wl_nil ?_
    refine px_then ?_
    refine wc_ret ?_
    refine px_then_ret ?_
    refine fin1 rfl (res_tmp rfl) (fun w1 hw => ?_)
    exact ⟨by rw [eqRows_ne (cast_ne' hc0)], hw.drop rfl⟩
  have hxy : xs.length = ys.length := cast_ne hc0
  refine wc_skip ?_
  refine px_then ?_
  refine wc_seq ?_
  refine wc_seq ?_
  refine wc_region ?_
  refine wl_v rfl (val_assign lkc) ?_
  refine wl_nil ?_
  refine px_then ?_
  refine wc_block ?_
  refine wc_trim (l' := [(0, _), (1, _), (4, _), (5, _)]) ⟨rfl, rfl, rfl, rfl, trivial⟩ ?_
  refine wc_loop0 (X := Nat) (fun k => k ≤ xs.length ∧ eqRows eqU (xs.drop k) (ys.drop k) = eqRows eqU xs ys) (fun k => [(5, (true, .int .i64 (k : Nat)))]) (fun k => xs.length - k) 0 (⟨Nat.zero_le _, rfl⟩) ⟨rfl, rfl, rfl, rfl, rfl, trivial⟩ ?_
  rintro k ⟨hk, ht⟩
  refine wc_seq ?_
  refine wc_seq ?_
  refine wc_region ?_
  refine wl_v rfl (val_move (lk rfl)) ?_
  refine wl_v rfl (val_move (lk rfl)) ?_
  refine wl_v rfl (val_len es_24 (lk rfl)) ?_
  refine wl_v rfl (val_lss (lk rfl) (lk rfl)) ?_
  refine wl_nil ?_
  refine px_then ?_
  refine wc_cond (lk rfl) (fun hc1 => ?_) (fun hc1 => ?_)
  · have hlt : k < xs.length := by have := of_decide_eq_true hc1; omega
    refine wc_skip ?_
    refine px_then ?_
    refine wc_seq ?_
    refine wc_block ?_
    refine wc_seq ?_
    refine wc_region_q mo_ (by kernel_rfl) ?_
    refine wq_v rfl (val_move (lk rfl)) ?_
    refine wq_v rfl (val_move (lk rfl)) ?_
    refine wq_v rfl (val_index es_24 (lk rfl) (lk rfl) (fun hG => hs.hd encU_len (by decide) (i := k) (by first | omega | (have h9 := of_decide_eq_true hG; omega) | (simp at hG; omega))) (fun hG => by first | omega | (have h9 := of_decide_eq_true hG; omega) | (simp at hG; omega))) ?_
    refine wq_v rfl (val_loadN ag_31 (lk rfl) rfl (hs.rec_ rfl encU_len d0U (fun hG => by first | omega | (have h9 := of_decide_eq_true hG; omega) | (simp at hG; omega)))) ?_
    refine wq_v rfl (val_move (lk rfl)) ?_
    refine wq_v rfl (val_move (lk rfl)) ?_
    refine wq_v rfl (val_index es_24 (lk rfl) (lk rfl) (fun hG => hs2.hd encU_len (by decide) (i := k) (by first | omega | (have h9 := of_decide_eq_true hG; omega) | (simp at hG; omega))) (fun hG => by first | omega | (have h9 := of_decide_eq_true hG; omega) | (simp at hG; omega))) ?_
    refine wq_v rfl (val_loadN ag_31 (lk rfl) rfl (hs2.rec_ rfl encU_len d0U (fun hG => by first | omega | (have h9 := of_decide_eq_true hG; omega) | (simp at hG; omega)))) ?_
    refine wq_v rfl (val_neqK eqk_31 ist_31 egt_31 (lk rfl) (lk rfl) rfl rfl) ?_
    refine wq_nil ?_
    refine px_then ?_
    refine wc_cond (lk rfl) (fun hc2 => ?_) (fun hc2 => ?_)
    · refine wc_seq ?_
      refine wc_region ?_
      refine wl_v rfl (val_assign lkc) ?_
      refine wl_nil ?_
      refine px_then ?_
      refine wc_ret ?_
      refine px_block_ret ?_
      refine px_then_ret ?_
      refine px_then_ret ?_
      refine px_block_ret ?_
      refine px_then_ret ?_
      refine fin1 rfl (res_tmp rfl) (fun w1 hw => ?_)
      exact ⟨by rw [← ht, eqRows_step (d := d0U) hlt (by omega)]; simp only [bne, Bool.not_eq_true'] at hc2; rw [encU_eq] at hc2; rw [hc2]; rfl, hw.drop rfl⟩
    refine wc_skip ?_
    refine px_block ?_
    refine px_then ?_
    refine wc_region ?_
    refine wl_v rfl (val_move (lk rfl)) ?_
    refine wl_v rfl (val_inc (lk rfl) (by omega)) ?_
    refine wl_v rfl (val_assign (lk rfl)) ?_
    refine wl_nil ?_
    refine px_round0 (k + 1) (⟨by omega, by rw [← ht, eqRows_step (d := d0U) hlt (by omega)]; simp only [bne, Bool.not_eq_false'] at hc2; rw [encU_eq] at hc2; rw [hc2]; rfl⟩) (by omega) (⟨rfl, rfl, rfl, rfl, rfl, trivial⟩) (fun _ h => h.dropN 0 rfl)
  have hge : k = xs.length := by have := of_decide_eq_false hc1; omega
  subst hge
  refine wc_exit ?_
  refine px_then_exit ?_
  refine px_then_exit ?_
  refine px_block_exit ?_
  refine px_then ?_
  refine wc_seq ?_
  refine wc_region ?_
  refine wl_v rfl (val_assign lkc) ?_
  refine wl_nil ?_
  refine px_then ?_
  refine wc_ret ?_
  refine fin1 rfl (res_tmp rfl) (fun w1 hw => ?_)
  have e1 : xs.drop xs.length = [] := by simp
  have e2 : ys.drop xs.length = [] := by simp [hxy]
  exact ⟨by rw [← ht, e1, e2]; rfl, hw.drop rfl⟩

theorem law_NetBalanceD (A : Option Addr) (n b o c : Nat) (w : World) (hk : Cod w A n b o) :
    Calls Try.prog 8 #[.slice A n c] w fun e w' => e = .returned (.bool true) ∧ HP w [] w' := by
  refine calls_entry [] _ Try.func8 rfl Try.ntmps8 (HP.refl w) (env1 rfl) ?_
  refine wc_seq ?_
  refine wc_region ?_
  refine wl_v rfl (val_assign lkc) ?_
  refine wl_nil ?_
  refine px_then ?_
  refine wc_seq ?_
  refine wc_seq ?_
  refine wc_region ?_
  refine wl_v rfl (val_move (lk rfl)) ?_
  refine wl_call gd_none rfl ci_9 (args1 (lk rfl)) (fun hG w1 hw => big_c _ _ _ w1) ?_
  refine wl_nil ?_
  refine px_then ?_
  refine wc_cond (lk rfl) (fun hc0 => ?_) (fun hc0 => ?_)
  · refine wc_seq ?_
    refine wc_region ?_
    refine wl_v rfl (val_assign lkc) ?_
    refine wl_nil ?_
    refine px_then ?_
    refine wc_ret ?_
    refine px_then_ret ?_
    refine fin1 rfl (res_tmp rfl) (fun w1 hw => ?_)
    exact ⟨rfl, hw.drop rfl⟩
  have hn : n ≤ 1048576 := by have := of_decide_eq_false hc0; omega
  refine wc_skip ?_
  refine px_then ?_
  refine wc_seq ?_
  refine wc_region ?_
  refine wl_v rfl (val_move (lk rfl)) ?_
  refine wl_callx rfl ci_34 (args1 (lk rfl)) (fun w1 hw => DrawNet_c _ _ _ _ _ w1 (hk.hp hw rfl)) (fun _ => rfl) ?_
  rintro ⟨⟨xs12, gr12, gc12, gs12⟩, ⟨ys12, gy12, yc12, zs12⟩, xg12, xh12⟩ ⟨⟨hgl12, hgc12⟩, ⟨hyl12, hyc12⟩, hok12, hlen12, hleny12⟩
  simp only at hgl12 hgc12 hyl12 hyc12 hok12 hlen12 hleny12
  refine wl_v rfl (val_move (lk rfl)) ?_
  refine wl_v rfl (val_extract (lk rfl) rfl) ?_
  refine wl_v rfl (val_extract (lk rfl) rfl) ?_
  refine wl_v rfl (val_extract (lk rfl) rfl) ?_
  refine wl_v rfl (val_extract (lk rfl) rfl) ?_
  refine wl_alloc zc_48 rfl fun b1 => ?_
  refine wl_alloc zc_48 rfl fun b2 => ?_
  refine wl_storeB 1 rfl (lk rfl) (lk rfl) ag_48 rfl rfl ?_
  refine wl_storeB 0 rfl (lk rfl) (lk rfl) ag_48 rfl rfl ?_
  refine wl_v rfl (val_assign (lk rfl)) ?_
  refine wl_v rfl (val_assign (lk rfl)) ?_
  refine wl_nil ?_
  refine px_then ?_
  refine wc_seq ?_
  refine wc_region ?_
  refine wl_v rfl (val_loadB (.tail _ (.head _)) (lk rfl) ag_48) ?_
  refine wl_v rfl (val_loadB (.head _) (lk rfl) ag_48) ?_
  refine wl_v rfl (val_move (lk rfl)) ?_
  refine wl_v rfl (val_move (lk rfl)) ?_
  refine wl_call gd_none rfl ci_35 (args4 (lk rfl) (lk rfl) (lk rfl) (lk rfl)) (fun hG w1 hw => Net_c xg12 xh12 xs12 ys12 _ _ _ _ _ _ _ _ w1 (Sl.own hw (.tail _ (.tail _ (.head _)))) (Sl.own hw (.tail _ (.tail _ (.tail _ (.head _))))) (by omega) (by omega)) ?_
  refine wl_v rfl (val_assign (lk rfl)) ?_
  refine wl_nil ?_
  refine px_then ?_
  refine wc_seq ?_
  refine wc_region_q mo_ (by kernel_rfl) ?_
  refine wq_v rfl (val_move (lk rfl)) ?_
  refine wq_v rfl (val_loadB (.head _) (lk rfl) ag_48) ?_
  refine wq_v rfl (val_loadB (.tail _ (.head _)) (lk rfl) ag_48) ?_
  refine wq_v rfl (val_move (lk rfl)) ?_
  refine wq_v rfl (val_move (lk rfl)) ?_
  refine wq_call gd_none rfl ci_35 (args4 (lk rfl) (lk rfl) (lk rfl) (lk rfl)) (fun hG w1 hw => Net_c xh12 xg12 ys12 xs12 _ _ _ _ _ _ _ _ w1 (Sl.own hw (.tail _ (.tail _ (.tail _ (.head _))))) (Sl.own hw (.tail _ (.tail _ (.head _)))) (by omega) (by omega)) ?_
  refine wq_v rfl (val_neg (lk rfl)) ?_
  refine wq_v rfl (val_eql (lk rfl) (lk rfl)) ?_
  refine wq_v rfl (val_move (lk rfl)) ?_
  refine wq_val (gd_t rfl rfl rfl) rfl (val_move (lk rfl)) ?_
  refine wq_val (gd_t rfl rfl rfl) rfl (val_loadB (.tail _ (.head _)) (lk rfl) ag_48) ?_
  refine wq_val (gd_t rfl rfl rfl) rfl (val_move (lk rfl)) ?_
  refine wq_val (gd_t rfl rfl rfl) rfl (val_move (lk rfl)) ?_
  refine wq_call (gd_t rfl rfl rfl) rfl ci_36 (args3 (lkg rfl) (lkg rfl) (lkg rfl)) (fun hG w1 hw => sOwed_c xg12 xs12 ys12 _ _ _ _ _ _ _ _ w1 (Sl.own hw (.tail _ (.tail _ (.head _)))) (Sl.own hw (.tail _ (.tail _ (.tail _ (.head _))))) (by omega) (by omega) (cap_le encU_len (by decide) hgl12) (cap_le encU_len (by decide) hyl12)) ?_
  refine wq_val (gd_t rfl rfl rfl) rfl (val_loadB (.head _) (lk rfl) ag_48) ?_
  refine wq_val (gd_t rfl rfl rfl) rfl (val_move (lk rfl)) ?_
  refine wq_val (gd_t rfl rfl rfl) rfl (val_move (lk rfl)) ?_
  refine wq_call (gd_t rfl rfl rfl) rfl ci_36 (args3 (lkg rfl) (lkg rfl) (lkg rfl)) (fun hG w1 hw => sOwed_c xh12 ys12 xs12 _ _ _ _ _ _ _ _ w1 (Sl.own hw (.tail _ (.tail _ (.tail _ (.head _))))) (Sl.own hw (.tail _ (.tail _ (.head _)))) (by omega) (by omega) (cap_le encU_len (by decide) hyl12) (cap_le encU_len (by decide) hgl12)) ?_
  refine wq_val (gd_t rfl rfl rfl) rfl (val_sub (lkg rfl) (lkg rfl)) ?_
  refine wq_val (gd_t rfl rfl rfl) rfl (val_eql (lkg rfl) (lkg rfl)) ?_
  refine wq_v rfl (val_and (lk rfl) (lkg rfl)) ?_
  refine wq_v rfl (val_move (lk rfl)) ?_
  refine wq_val (gd_t rfl rfl rfl) rfl (val_loadB (.tail _ (.head _)) (lk rfl) ag_48) ?_
  refine wq_val (gd_t rfl rfl rfl) rfl (val_loadB (.tail _ (.head _)) (lk rfl) ag_48) ?_
  refine wq_val (gd_t rfl rfl rfl) rfl (val_move (lk rfl)) ?_
  refine wq_val (gd_t rfl rfl rfl) rfl (val_move (lk rfl)) ?_
  refine wq_call (gd_t rfl rfl rfl) rfl ci_35 (args4 (lkg rfl) (lkg rfl) (lkg rfl) (lkg rfl)) (fun hG w1 hw => Net_c xg12 xg12 xs12 xs12 _ _ _ _ _ _ _ _ w1 (Sl.own hw (.tail _ (.tail _ (.head _)))) (Sl.own hw (.tail _ (.tail _ (.head _)))) (by omega) (by omega)) ?_
  refine wq_val (gd_t rfl rfl rfl) rfl (val_eql (lkg rfl) lkc) ?_
  refine wq_v rfl (val_and (lk rfl) (lkg rfl)) ?_
  refine wq_v rfl (val_assign (lk rfl)) ?_
  refine wq_nil ?_
  refine px_then ?_
  refine wc_ret ?_
  refine fin1 rfl (res_tmp rfl) (fun w1 hw => ?_)
  exact ⟨congrArg (fun x => Ending.returned (.bool x)) (net_law _ _ _), hw.drop rfl⟩

theorem law_UsageRecordsD (A : Option Addr) (n b o c : Nat) (w : World) (hk : Cod w A n b o) :
    Calls Try.prog 4 #[.slice A n c] w fun e w' => e = .returned (.bool true) ∧ HP w [] w' := by
  refine calls_entry [] _ Try.func4 rfl Try.ntmps4 (HP.refl w) (env1 rfl) ?_
  refine wc_seq ?_
  refine wc_region ?_
  refine wl_v rfl (val_assign lkc) ?_
  refine wl_nil ?_
  refine px_then ?_
  refine wc_seq ?_
  refine wc_seq ?_
  refine wc_region ?_
  refine wl_v rfl (val_move (lk rfl)) ?_
  refine wl_call gd_none rfl ci_9 (args1 (lk rfl)) (fun hG w1 hw => big_c _ _ _ w1) ?_
  refine wl_nil ?_
  refine px_then ?_
  refine wc_cond (lk rfl) (fun hc0 => ?_) (fun hc0 => ?_)
  · refine wc_seq ?_
    refine wc_region ?_
    refine wl_v rfl (val_assign lkc) ?_
    refine wl_nil ?_
    refine px_then ?_
    refine wc_ret ?_
    refine px_then_ret ?_
    refine fin1 rfl (res_tmp rfl) (fun w1 hw => ?_)
    exact ⟨rfl, hw.drop rfl⟩
  have hn : n ≤ 1048576 := by have := of_decide_eq_false hc0; omega
  refine wc_skip ?_
  refine px_then ?_
  refine wc_seq ?_
  refine wc_region ?_
  refine wl_v rfl (val_move (lk rfl)) ?_
  refine wl_callx rfl ci_15 (args1 (lk rfl)) (fun w1 hw => DrawApp_c _ _ _ _ _ w1 (hk.hp hw rfl)) (fun _ => rfl) ?_
  rintro ⟨⟨xs15, gr15, gc15, gs15⟩, x15⟩ ⟨⟨hgl15, hgc15⟩, hlen15⟩
  simp only at hgl15 hgc15 hlen15
  refine wl_v rfl (val_move (lk rfl)) ?_
  refine wl_v rfl (val_extract (lk rfl) rfl) ?_
  refine wl_v rfl (val_extract (lk rfl) rfl) ?_
  refine wl_alloc zc_31 rfl fun b1 => ?_
  refine wl_v rfl (val_assign (lk rfl)) ?_
  refine wl_storeB 0 rfl (lk rfl) (lk rfl) ag_31 rfl rfl ?_
  refine wl_nil ?_
  refine px_then ?_
  refine wc_seq ?_
  refine wc_region ?_
  refine wl_v rfl (val_move (lk rfl)) ?_
  refine wl_v rfl (val_loadB (.head _) (lk rfl) ag_31) ?_
  refine wl_callx rfl ci_16 (args2 (lk rfl) (lk rfl)) (fun w1 hw => App_c xs15 _ _ _ _ x15 w1 (Sl.own hw (.tail _ (.head _))) (by omega)) (fun _ => rfl) ?_
  rintro ⟨gb21, gc21, gs21⟩ ⟨hgl21, hgc21⟩
  have hxl := appU_le xs15 x15
  refine wl_v rfl (val_move (lk rfl)) ?_
  refine wl_v rfl (val_extract (lk rfl) rfl) ?_
  refine wl_v rfl (val_extract (lk rfl) rfl) ?_
  refine wl_v rfl (val_assign (lk rfl)) ?_
  refine wl_v rfl (val_assign (lk rfl)) ?_
  refine wl_nil ?_
  refine px_then ?_
  refine wc_seq ?_
  refine wc_seq ?_
  refine wc_region ?_
  refine wl_v rfl (val_move (lk rfl)) ?_
  refine wl_v rfl (val_loadB (.tail _ (.head _)) (lk rfl) ag_31) ?_
  refine wl_callx rfl ci_17 (args2 (lk rfl) (lk rfl)) (fun w1 hw => sApp_c xs15 _ _ _ _ x15 w1 (Sl.own hw (.tail _ (.tail _ (.head _)))) (by omega)) (fun _ => rfl) ?_
  rintro ⟨gb27, gc27, gs27⟩ ⟨hgl27, hgc27⟩
  refine wl_v rfl (val_move (lk rfl)) ?_
  refine wl_v rfl (val_extract (lk rfl) rfl) ?_
  refine wl_v rfl (val_extract (lk rfl) rfl) ?_
  refine wl_v rfl (val_assign (lk rfl)) ?_
  refine wl_v rfl (val_assign (lk rfl)) ?_
  refine wl_nil ?_
  refine px_then ?_
  refine wc_seq ?_
  refine wc_region ?_
  refine wl_v rfl (val_move (lk rfl)) ?_
  refine wl_v rfl (val_move (lk rfl)) ?_
  refine wl_v rfl (val_neqB Try.underlying4 (lk rfl) (lk rfl)) ?_
  refine wl_nil ?_
  refine px_then ?_
  refine wc_cond (lk rfl) (fun hc1 => ?_) (fun hc1 => ?_)
  · (exfalso; revert hc1; simp)
  refine wc_skip ?_
  refine px_then ?_
  refine wc_seq ?_
  refine wc_seq ?_
  refine wc_region ?_
  refine wl_v rfl (val_move (lk rfl)) ?_
  refine wl_v rfl (val_not (lk rfl)) ?_
  refine wl_nil ?_
  refine px_then ?_
  refine wc_cond (lk rfl) (fun hc2 => ?_) (fun hc2 => ?_)
  · refine wc_seq ?_
    refine wc_region ?_
    refine wl_v rfl (val_move (lk rfl)) ?_
    refine wl_v rfl (val_move (lk rfl)) ?_
    refine wl_call gd_none rfl ci_12 (args2 (lk rfl) (lk rfl)) (fun hG w1 hw => same_c ((appU xs15 x15)) (xs15) _ _ _ _ _ _ _ _ w1 (Sl.own hw (.tail _ (.head _))) (Sl.own hw (.tail _ (.tail _ (.tail _ (.head _))))) (by omega)) ?_
    refine wl_v rfl (val_assign (lk rfl)) ?_
    refine wl_nil ?_
    refine px_then ?_
    refine wc_ret ?_
    refine px_then_ret ?_
    refine fin1 rfl (res_tmp rfl) (fun w1 hw => ?_)
    exact ⟨congrArg (fun x => Ending.returned (.bool x)) (usage_no hc2), hw.drop rfl⟩
  refine wc_skip ?_
  refine px_then ?_
  refine wc_seq ?_
  refine wc_region ?_
  refine wl_v rfl (val_move (lk rfl)) ?_
  refine wl_v rfl (val_loadB (.tail _ (.tail _ (.head _))) (lk rfl) ag_31) ?_
  refine wl_callx rfl ci_16 (args2 (lk rfl) (lk rfl)) (fun w1 hw => App_c (appU xs15 x15) _ _ _ _ x15 w1 (Sl.own hw (.tail _ (.head _))) (by omega)) (fun _ => rfl) ?_
  rintro ⟨gb41, gc41, gs41⟩ ⟨hgl41, hgc41⟩
  have hyl := appU_le (appU xs15 x15) x15
  refine wl_v rfl (val_move (lk rfl)) ?_
  refine wl_v rfl (val_extract (lk rfl) rfl) ?_
  refine wl_v rfl (val_extract (lk rfl) rfl) ?_
  refine wl_v rfl (val_assign (lk rfl)) ?_
  refine wl_v rfl (val_assign (lk rfl)) ?_
  refine wl_nil ?_
  refine px_then ?_
  refine wc_seq ?_
  refine wc_region_q mo_ (by kernel_rfl) ?_
  refine wq_v rfl (val_move (lk rfl)) ?_
  refine wq_call gd_none rfl ci_14 (args1 (lk rfl)) (fun hG w1 hw => OkAll_c (appU xs15 x15) _ _ _ _ w1 (Sl.own hw (.tail _ (.tail _ (.head _)))) (by omega)) ?_
  refine wq_v rfl (val_move (lk rfl)) ?_
  refine wq_val (gd_t rfl rfl rfl) rfl (val_move (lk rfl)) ?_
  refine wq_val (gd_t rfl rfl rfl) rfl (val_loadB (.tail _ (.tail _ (.tail _ (.head _)))) (lk rfl) ag_31) ?_
  refine wq_call (gd_t rfl rfl rfl) rfl ci_13 (args2 (lkg rfl) (lkg rfl)) (fun hG w1 hw => FindU_c (appU xs15 x15) _ _ _ _ x15 w1 (Sl.own hw (.tail _ (.tail _ (.head _)))) (by omega)) ?_
  refine wq_val (gd_t rfl rfl rfl) rfl (val_move (lk rfl)) ?_
  refine wq_val (gd_t rfl rfl rfl) rfl (val_len es_24 (lkg rfl)) ?_
  refine wq_val (gd_t rfl rfl rfl) rfl (val_eql (lkg rfl) (lkg rfl)) ?_
  refine wq_v rfl (val_and (lk rfl) (lkg rfl)) ?_
  refine wq_v rfl (val_move (lk rfl)) ?_
  refine wq_val (gd_t rfl rfl rfl) rfl (val_move (lk rfl)) ?_
  refine wq_val (gd_t rfl rfl rfl) rfl (val_field fo_31_0 (lk rfl)) ?_
  refine wq_val (gd_t rfl rfl rfl) rfl (val_load1 t1_3 (lkg rfl) (cell_own (.tail _ (.tail _ (.tail _ (.head _)))) fun _ => rfl)) ?_
  refine wq_call (gd_t rfl rfl rfl) rfl ci_18 (args2 (lkg rfl) (lkg rfl)) (fun hG w1 hw => BytesU_c (appU xs15 x15) _ _ _ _ x15.net w1 (Sl.own hw (.tail _ (.tail _ (.head _)))) (by omega)) ?_
  refine wq_val (gd_t rfl rfl rfl) rfl (val_move (lk rfl)) ?_
  refine wq_val (gd_t rfl rfl rfl) rfl (val_field fo_31_0 (lk rfl)) ?_
  refine wq_val (gd_t rfl rfl rfl) rfl (val_load1 t1_3 (lkg rfl) (cell_own (.tail _ (.tail _ (.tail _ (.head _)))) fun _ => rfl)) ?_
  refine wq_call (gd_t rfl rfl rfl) rfl ci_19 (args2 (lkg rfl) (lkg rfl)) (fun hG w1 hw => sBytesU_c xs15 _ _ _ _ x15.net w1 (Sl.own hw (.tail _ (.tail _ (.tail _ (.tail _ (.head _)))))) (by omega)) ?_
  refine wq_val (gd_t rfl rfl rfl) rfl (val_field fo_31_3 (lk rfl)) ?_
  refine wq_val (gd_t rfl rfl rfl) rfl (val_load1 t1_3 (lkg rfl) (cell_own (.tail _ (.tail _ (.tail _ (.head _)))) fun _ => rfl)) ?_
  refine wq_val (gd_t rfl rfl rfl) rfl (val_add (lkg rfl) (lkg rfl)) ?_
  refine wq_val (gd_t rfl rfl rfl) rfl (val_eql (lkg rfl) (lkg rfl)) ?_
  refine wq_v rfl (val_and (lk rfl) (lkg rfl)) ?_
  refine wq_v rfl (val_move (lk rfl)) ?_
  refine wq_val (gd_t rfl rfl rfl) rfl (val_move (lk rfl)) ?_
  refine wq_val (gd_t rfl rfl rfl) rfl (val_not (lkg rfl)) ?_
  refine wq_v rfl (val_and (lk rfl) (lkg rfl)) ?_
  refine wq_v rfl (val_move (lk rfl)) ?_
  refine wq_val (gd_t rfl rfl rfl) rfl (val_move (lk rfl)) ?_
  refine wq_val (gd_t rfl rfl rfl) rfl (val_move (lk rfl)) ?_
  refine wq_call (gd_t rfl rfl rfl) rfl ci_12 (args2 (lkg rfl) (lkg rfl)) (fun hG w1 hw => same_c (appU (appU xs15 x15) x15) ((appU xs15 x15)) _ _ _ _ _ _ _ _ w1 (Sl.own hw (.head _)) (Sl.own hw (.tail _ (.tail _ (.head _)))) (by omega)) ?_
  refine wq_v rfl (val_and (lk rfl) (lkg rfl)) ?_
  refine wq_v rfl (val_assign (lk rfl)) ?_
  refine wq_nil ?_
  refine px_then ?_
  refine wc_ret ?_
  refine fin1 rfl (res_tmp rfl) (fun w1 hw => ?_)
  exact ⟨congrArg (fun x => Ending.returned (.bool x)) (usage_law hc2), hw.drop rfl⟩

theorem law_RecordMergeD (A : Option Addr) (n b o c : Nat) (w : World) (hk : Cod w A n b o) :
    Calls Try.prog 3 #[.slice A n c] w fun e w' => e = .returned (.bool true) ∧ HP w [] w' := by
  refine calls_entry [] _ Try.func3 rfl Try.ntmps3 (HP.refl w) (env1 rfl) ?_
  refine wc_seq ?_
  refine wc_region ?_
  refine wl_v rfl (val_assign lkc) ?_
  refine wl_nil ?_
  refine px_then ?_
  refine wc_seq ?_
  refine wc_seq ?_
  refine wc_region ?_
  refine wl_v rfl (val_move (lk rfl)) ?_
  refine wl_call gd_none rfl ci_9 (args1 (lk rfl)) (fun hG w1 hw => big_c _ _ _ w1) ?_
  refine wl_nil ?_
  refine px_then ?_
  refine wc_cond (lk rfl) (fun hc0 => ?_) (fun hc0 => ?_)
  · refine wc_seq ?_
    refine wc_region ?_
    refine wl_v rfl (val_assign lkc) ?_
    refine wl_nil ?_
    refine px_then ?_
    refine wc_ret ?_
    refine px_then_ret ?_
    refine fin1 rfl (res_tmp rfl) (fun w1 hw => ?_)
    exact ⟨rfl, hw.drop rfl⟩
  have hn : n ≤ 1048576 := by have := of_decide_eq_false hc0; omega
  refine wc_skip ?_
  refine px_then ?_
  refine wc_seq ?_
  refine wc_region ?_
  refine wl_v rfl (val_move (lk rfl)) ?_
  refine wl_callx rfl ci_10 (args1 (lk rfl)) (fun w1 hw => DrawRecs_c _ _ _ _ _ w1 (hk.hp hw rfl)) (fun _ => rfl) ?_
  rintro ⟨⟨xs11, gr11, gc11, gs11⟩, ⟨ys11, gy11, yc11, zs11⟩, u11⟩ ⟨⟨hgl11, hgc11⟩, ⟨hyl11, hyc11⟩, hok11, hlen11, hoky11, hleny11⟩
  simp only at hgl11 hgc11 hyl11 hyc11 hok11 hlen11 hoky11 hleny11
  refine wl_v rfl (val_move (lk rfl)) ?_
  refine wl_v rfl (val_extract (lk rfl) rfl) ?_
  refine wl_v rfl (val_extract (lk rfl) rfl) ?_
  refine wl_v rfl (val_assign (lk rfl)) ?_
  refine wl_v rfl (val_assign (lk rfl)) ?_
  refine wl_nil ?_
  refine px_then ?_
  refine wc_seq ?_
  refine wc_region ?_
  refine wl_v rfl (val_move (lk rfl)) ?_
  refine wl_v rfl (val_move (lk rfl)) ?_
  refine wl_callx rfl ci_11 (args2 (lk rfl) (lk rfl)) (fun w1 hw => Merge_c xs11 ys11 _ _ _ _ _ _ _ _ w1 (Sl.own hw (.head _)) (Sl.own hw (.tail _ (.head _))) (by omega) (by omega)) (fun _ => rfl) ?_
  rintro ⟨gb16, gc16, gs16⟩ ⟨hgl16, hgc16⟩
  have hml := mergeU_le xs11 ys11 ys11.length
  have hmg := mergeU_ge xs11 ys11 ys11.length
  refine wl_v rfl (val_assign (lk rfl)) ?_
  refine wl_nil ?_
  refine px_then ?_
  refine wc_seq ?_
  refine wc_seq ?_
  refine wc_region ?_
  refine wl_v rfl (val_move (lk rfl)) ?_
  refine wl_v rfl (val_len es_24 (lk rfl)) ?_
  refine wl_v rfl (val_move (lk rfl)) ?_
  refine wl_v rfl (val_len es_24 (lk rfl)) ?_
  refine wl_v rfl (val_lss (lk rfl) (lk rfl)) ?_
  refine wl_v rfl (val_move (lk rfl)) ?_
  refine wl_val (gd_f rfl rfl rfl) rfl (val_move (lk rfl)) ?_
  refine wl_val (gd_f rfl rfl rfl) rfl (val_move (lk rfl)) ?_
  refine wl_val (gd_f rfl rfl rfl) rfl (val_len es_24 (lkg rfl)) ?_
  refine wl_val (gd_f rfl rfl rfl) rfl ((val_slice_all es_24 (lkg rfl) none (some (.tmp 25)) 0 xs11.length rfl ⟨_, lkg rfl⟩ (fun _ => Nat.zero_le _) (fun _ => by have := cap_le encU_len (by decide) hgl16; omega)).eq (show _ = Value.slice (some ⟨gb16, 0, none⟩) ((mergeU xs11 ys11 ys11.length).take xs11.length).length gc16 by rw [List.length_take, Nat.min_eq_left hmg]; split <;> rfl)) ?_
  refine wl_val (gd_f rfl rfl rfl) rfl (val_move (lk rfl)) ?_
  refine wl_call (gd_f rfl rfl rfl) rfl ci_12 (args2 (lkg rfl) (lkg rfl)) (fun hG w1 hw => same_c ((mergeU xs11 ys11 ys11.length).take xs11.length) xs11 _ _ _ _ _ _ _ _ w1 (((Sl.own hw (.head _)).take (xs11.length * 4)).eq (flat_take encU_len _ _ hmg)) (Sl.own hw (.tail _ (.head _))) (by rw [List.length_take]; omega)) ?_
  refine wl_val (gd_f rfl rfl rfl) rfl (val_not (lkg rfl)) ?_
  refine wl_v rfl (val_or (lk rfl) (lkg rfl)) ?_
  refine wl_nil ?_
  refine px_then ?_
  refine wc_cond (lk rfl) (fun hc1 => ?_) (fun hc1 => ?_)
  · (exfalso; rw [merge_start] at hc1; exact Bool.noConfusion hc1)
  refine wc_skip ?_
  refine px_then ?_
  refine wc_seq ?_
  refine wc_seq ?_
  refine wc_region ?_
  refine wl_v rfl (val_assign lkc) ?_
  refine wl_nil ?_
  refine px_then ?_
  refine wc_block ?_
  refine wc_trim (l' := [(2, _), (3, _), (4, _), (5, _), (6, _)]) ⟨rfl, rfl, rfl, rfl, rfl, trivial⟩ ?_
  refine wc_loop0 (X := Nat) (fun k => k ≤ ys11.length) (fun k => [(6, (true, .int .i64 (k : Nat)))]) (fun k => ys11.length - k) 0 (Nat.zero_le _) ⟨rfl, rfl, rfl, rfl, rfl, rfl, trivial⟩ ?_
  intro k hk0
  refine wc_seq ?_
  refine wc_seq ?_
  refine wc_region ?_
  refine wl_v rfl (val_move (lk rfl)) ?_
  refine wl_v rfl (val_move (lk rfl)) ?_
  refine wl_v rfl (val_len es_24 (lk rfl)) ?_
  refine wl_v rfl (val_lss (lk rfl) (lk rfl)) ?_
  refine wl_nil ?_
  refine px_then ?_
  refine wc_cond (lk rfl) (fun hc2 => ?_) (fun hc2 => ?_)
  · have hlt : k < ys11.length := by have h9 : ((k : Nat) : Int) < ((ys11.length : Nat) : Int) := of_decide_eq_true hc2; omega
    refine wc_skip ?_
    refine px_then ?_
    refine wc_seq ?_
    refine wc_block ?_
    refine wc_seq ?_
    refine wc_region ?_
    refine wl_v rfl (val_move (lk rfl)) ?_
    refine wl_v rfl (val_move (lk rfl)) ?_
    refine wl_v rfl (val_move (lk rfl)) ?_
    refine wl_v rfl (val_index es_24 (lk rfl) (lk rfl) (fun hG => rfl) (fun hG => hlt)) ?_
    refine wl_v rfl (val_loadN ag_31 (lk rfl) rfl (own_rec (.tail _ (.tail _ (.head _))) encU_len d0U (fun _ => hlt))) ?_
    refine wl_call gd_none rfl ci_13 (args2 (lk rfl) (lk rfl)) (fun hG w1 hw => FindU_c (mergeU xs11 ys11 ys11.length) _ _ _ _ (nth d0U ys11 k) w1 (Sl.own hw (.head _)) (by omega)) ?_
    refine wl_v rfl (val_lss (lk rfl) lkc) ?_
    refine wl_nil ?_
    refine px_then ?_
    refine wc_cond (lk rfl) (fun hc3 => ?_) (fun hc3 => ?_)
    · (exfalso; have h9 := mergeU_find hok11 hoky11 hlen11 hleny11 _ (Nat.le_refl _) k hlt; have := of_decide_eq_true hc3; omega)
    refine wc_skip ?_
    refine px_block ?_
    refine px_then ?_
    refine wc_region ?_
    refine wl_v rfl (val_move (lk rfl)) ?_
    refine wl_v rfl (val_inc (lk rfl) (by omega)) ?_
    refine wl_v rfl (val_assign (lk rfl)) ?_
    refine wl_nil ?_
    refine px_round0 (k + 1) (by omega) (by omega) (⟨rfl, rfl, rfl, rfl, rfl, rfl, trivial⟩) (fun _ h => h.dropN 0 rfl)
  refine wc_exit ?_
  refine px_then_exit ?_
  refine px_then_exit ?_
  refine px_block_exit ?_
  refine px_then ?_
  refine wc_seq ?_
  refine wc_region ?_
  refine wl_v rfl (val_move (lk rfl)) ?_
  refine wl_call gd_none rfl ci_14 (args1 (lk rfl)) (fun hG w1 hw => OkAll_c (mergeU xs11 ys11 ys11.length) _ _ _ _ w1 (Sl.own hw (.head _)) (by omega)) ?_
  refine wl_v rfl ((val_move (lk rfl)).eq (congrArg Value.bool (mergeU_ok ys11 hok11 _))) ?_
  refine wl_val (gd_t rfl rfl rfl) rfl (val_move (lk rfl)) ?_
  refine wl_val (gd_t rfl rfl rfl) rfl (val_move (lk rfl)) ?_
  refine wl_callxg (gd_t rfl rfl rfl) rfl rfl ci_11 (args2 (lkg rfl) (lkg rfl)) (fun w1 hw => Merge_c (mergeU xs11 ys11 ys11.length) ys11 _ _ _ _ _ _ _ _ w1 (Sl.own hw (.head _)) (Sl.own hw (.tail _ (.tail _ (.head _)))) (by omega) (by omega)) (fun _ => rfl) ?_
  rintro ⟨gb49, gc49, gs49⟩ ⟨hgl49, hgc49⟩
  have hml2 := mergeU_le (mergeU xs11 ys11 ys11.length) ys11 ys11.length
  refine wl_val (gd_t rfl rfl rfl) rfl (val_move (lk rfl)) ?_
  refine wl_call (gd_t rfl rfl rfl) rfl ci_12 (args2 (lkg rfl) (lkg rfl)) (fun hG w1 hw => same_c (mergeU (mergeU xs11 ys11 ys11.length) ys11 ys11.length) ((mergeU xs11 ys11 ys11.length)) _ _ _ _ _ _ _ _ w1 (Sl.own hw (.head _)) (Sl.own hw (.tail _ (.head _))) (by omega)) ?_
  refine wl_v rfl (val_and (lk rfl) (lkg rfl)) ?_
  refine wl_v rfl ((val_move (lk rfl)).eq (congrArg Value.bool (merge_again hok11 hoky11 hlen11 hleny11))) ?_
  refine wl_val (gd_t rfl rfl rfl) rfl (val_move (lk rfl)) ?_
  refine wl_val (gd_t rfl rfl rfl) rfl (val_move (lk rfl)) ?_
  refine wl_callxg (gd_t rfl rfl rfl) rfl rfl ci_11 (args2 (lkg rfl) (lkg rfl)) (fun w1 hw => Merge_c xs11 xs11 _ _ _ _ _ _ _ _ w1 (Sl.own hw (.tail _ (.tail _ (.head _)))) (Sl.own hw (.tail _ (.tail _ (.head _)))) (by omega) (by omega)) (fun _ => rfl) ?_
  rintro ⟨gb56, gc56, gs56⟩ ⟨hgl56, hgc56⟩
  have hml3 := mergeU_le xs11 xs11 xs11.length
  refine wl_val (gd_t rfl rfl rfl) rfl (val_move (lk rfl)) ?_
  refine wl_call (gd_t rfl rfl rfl) rfl ci_12 (args2 (lkg rfl) (lkg rfl)) (fun hG w1 hw => same_c (mergeU xs11 xs11 xs11.length) (xs11) _ _ _ _ _ _ _ _ w1 (Sl.own hw (.head _)) (Sl.own hw (.tail _ (.tail _ (.tail _ (.head _))))) (by omega)) ?_
  refine wl_v rfl (val_and (lk rfl) (lkg rfl)) ?_
  refine wl_v rfl (val_assign (lk rfl)) ?_
  refine wl_nil ?_
  refine px_then ?_
  refine wc_ret ?_
  refine fin1 rfl (res_tmp rfl) (fun w1 hw => ?_)
  exact ⟨congrArg (fun x => Ending.returned (.bool x)) (merge_self), hw.drop rfl⟩

end Go.Proofs.Ytcdinidpclmmeaa
