/- More laws on drawn records, walked. -/
import Derived.Test.YtcdinidpclmmeaaSxLq
namespace Go.Proofs.Ytcdinidpclmmeaa
open Go.RowKit

theorem law_SettlementD (A : Option Addr) (n b o c : Nat) (w : World) (hk : Cod w A n b o) :
    Calls Try.prog 7 #[.slice A n c] w fun e w' => e = .returned (.bool true) ∧ HP w [] w' := by
  refine calls_entry [] _ Try.func7 rfl Try.ntmps7 (HP.refl w) (env1 rfl) ?_
  refine wc_seq ?_
  refine wc_region ?_
  refine wl_v rfl (val_assign lkc) ?_
  refine wl_nil ?_
  refine px_then ?_
  refine wc_seq ?_
  refine wc_seq ?_
  refine wc_region ?_
  refine wl_v rfl (val_move (lk rfl)) ?_
  refine wl_call gd_none rfl ci_9 (args1 (lk rfl)) (fun hG w1 hw => big_c _ _ _ w1) ?_
  refine wl_nil ?_
  refine px_then ?_
  refine wc_cond (lk rfl) (fun hc0 => ?_) (fun hc0 => ?_)
  · refine wc_seq ?_
    refine wc_region ?_
    refine wl_v rfl (val_assign lkc) ?_
    refine wl_nil ?_
    refine px_then ?_
    refine wc_ret ?_
    refine px_then_ret ?_
    refine fin1 rfl (res_tmp rfl) (fun w1 hw => ?_)
    exact ⟨rfl, hw.drop rfl⟩
  have hn : n ≤ 1048576 := by have := of_decide_eq_false hc0; omega
  refine wc_skip ?_
  refine px_then ?_
  refine wc_seq ?_
  refine wc_region ?_
  refine wl_v rfl (val_move (lk rfl)) ?_
  refine wl_callx rfl ci_30 (args1 (lk rfl)) (fun w1 hw => DrawOwed_c _ _ _ _ _ w1 (hk.hp hw rfl)) (fun _ => rfl) ?_
  rintro ⟨⟨xs14, gr14, gc14, gs14⟩, ⟨ys14, gy14, yc14, zs14⟩, xg14⟩ ⟨⟨hgl14, hgc14⟩, ⟨hyl14, hyc14⟩, hok14, hlen14, hleny14⟩
  simp only at hgl14 hgc14 hyl14 hyc14 hok14 hlen14 hleny14
  refine wl_v rfl (val_move (lk rfl)) ?_
  refine wl_v rfl (val_extract (lk rfl) rfl) ?_
  refine wl_v rfl (val_extract (lk rfl) rfl) ?_
  refine wl_v rfl (val_extract (lk rfl) rfl) ?_
  refine wl_alloc zc_48 rfl fun b1 => ?_
  refine wl_storeB 0 rfl (lk rfl) (lk rfl) ag_48 rfl rfl ?_
  refine wl_v rfl (val_assign (lk rfl)) ?_
  refine wl_v rfl (val_assign (lk rfl)) ?_
  refine wl_nil ?_
  refine px_then ?_
  refine wc_seq ?_
  refine wc_region ?_
  refine wl_v rfl (val_loadB (.head _) (lk rfl) ag_48) ?_
  refine wl_v rfl (val_move (lk rfl)) ?_
  refine wl_v rfl (val_move (lk rfl)) ?_
  refine wl_call gd_none rfl ci_31 (args3 (lk rfl) (lk rfl) (lk rfl)) (fun hG w1 hw => Owed_c xg14 xs14 ys14 _ _ _ _ _ _ _ _ w1 (Sl.own hw (.tail _ (.head _))) (Sl.own hw (.tail _ (.tail _ (.head _)))) (by omega) (by omega)) ?_
  refine wl_v rfl (val_assign (lk rfl)) ?_
  refine wl_nil ?_
  refine px_then ?_
  refine wc_seq ?_
  refine wc_seq ?_
  refine wc_region ?_
  refine wl_v rfl (val_loadB (.head _) (lk rfl) ag_48) ?_
  refine wl_call gd_none rfl ci_32 (args1 (lk rfl)) (fun hG w1 hw => sokG_c xg14 w1) ?_
  refine wl_v rfl (val_not (lk rfl)) ?_
  refine wl_v rfl (val_move (lk rfl)) ?_
  refine wl_val (gd_f rfl rfl rfl) rfl (val_move (lk rfl)) ?_
  refine wl_call (gd_f rfl rfl rfl) rfl ci_22 (args1 (lkg rfl)) (fun hG w1 hw => sOkAll_c xs14 _ _ _ _ w1 (Sl.own hw (.tail _ (.head _))) (by omega) (cap_le encU_len (by decide) hgl14)) ?_
  refine wl_val (gd_f rfl rfl rfl) rfl (val_not (lkg rfl)) ?_
  refine wl_v rfl (val_or (lk rfl) (lkg rfl)) ?_
  refine wl_v rfl (val_move (lk rfl)) ?_
  refine wl_val (gd_f rfl rfl rfl) rfl (val_move (lk rfl)) ?_
  refine wl_call (gd_f rfl rfl rfl) rfl ci_22 (args1 (lkg rfl)) (fun hG w1 hw => sOkAll_c ys14 _ _ _ _ w1 (Sl.own hw (.tail _ (.tail _ (.head _)))) (by omega) (cap_le encU_len (by decide) hyl14)) ?_
  refine wl_val (gd_f rfl rfl rfl) rfl (val_not (lkg rfl)) ?_
  refine wl_v rfl (val_or (lk rfl) (lkg rfl)) ?_
  refine wl_nil ?_
  refine px_then ?_
  refine wc_cond (lk rfl) (fun hc1 => ?_) (fun hc1 => ?_)
  · refine wc_seq ?_
    refine wc_region ?_
    refine wl_v rfl (val_move (lk rfl)) ?_
    refine wl_v rfl (val_eql (lk rfl) lkc) ?_
    refine wl_v rfl (val_assign (lk rfl)) ?_
    refine wl_nil ?_
    refine px_then ?_
    refine wc_ret ?_
    refine px_then_ret ?_
    refine fin1 rfl (res_tmp rfl) (fun w1 hw => ?_)
    exact ⟨congrArg (fun x => Ending.returned (.bool x)) (settle_no hc1), hw.drop rfl⟩
  refine wc_skip ?_
  refine px_then ?_
  refine wc_seq ?_
  refine wc_region ?_
  refine wl_v rfl (val_assign lkc) ?_
  refine wl_nil ?_
  refine px_then ?_
  refine wc_seq ?_
  refine wc_seq ?_
  refine wc_region ?_
  refine wl_v rfl (val_assign lkc) ?_
  refine wl_nil ?_
  refine px_then ?_
  refine wc_block ?_
  refine wc_trim (l' := [(2, _), (3, _), (4, _), (5, _), (6, _), (7, _), (8, _)]) ⟨rfl, rfl, rfl, rfl, rfl, rfl, rfl, trivial⟩ ?_
  refine wc_loop0 (X := Nat) (fun k => k ≤ ys14.length) (fun k => [(7, (true, .int .i64 (bytesU ys14 xg14.vis k))), (8, (true, .int .i64 (k : Nat)))]) (fun k => ys14.length - k) 0 (Nat.zero_le _) ⟨rfl, rfl, rfl, rfl, rfl, rfl, rfl, rfl, rfl, trivial⟩ ?_
  intro k hk0
  refine wc_seq ?_
  refine wc_seq ?_
  refine wc_region ?_
  refine wl_v rfl (val_move (lk rfl)) ?_
  refine wl_v rfl (val_move (lk rfl)) ?_
  refine wl_v rfl (val_len es_24 (lk rfl)) ?_
  refine wl_v rfl (val_lss (lk rfl) (lk rfl)) ?_
  refine wl_nil ?_
  refine px_then ?_
  refine wc_cond (lk rfl) (fun hc2 => ?_) (fun hc2 => ?_)
  · have hlt : k < ys14.length := by have h9 : ((k : Nat) : Int) < ((ys14.length : Nat) : Int) := of_decide_eq_true hc2; omega
    refine wc_skip ?_
    refine px_then ?_
    refine wc_seq ?_
    refine wc_block ?_
    refine wc_seq ?_
    refine wc_region_q mo_ (by kernel_rfl) ?_
    refine wq_v rfl (val_move (lk rfl)) ?_
    refine wq_v rfl (val_move (lk rfl)) ?_
    refine wq_v rfl (val_index es_24 (lk rfl) (lk rfl) (fun hG => rfl) (fun hG => hlt)) ?_
    refine wq_v rfl (val_field fo_31_0 (lk rfl)) ?_
    refine wq_v rfl (val_load1 t1_3 (lk rfl) (own_fld (.tail _ (.tail _ (.head _))) encU_len d0U (i := k) (f := 0) (fun _ => hlt) rfl)) ?_
    refine wq_v rfl (val_field fo_48_1 (lk rfl)) ?_
    refine wq_v rfl (val_load1 t1_3 (lk rfl) (cell_own (.head _) fun _ => rfl)) ?_
    refine wq_v rfl (val_eql (lk rfl) (lk rfl)) ?_
    refine wq_nil ?_
    refine px_then ?_
    refine wc_cond (lk rfl) (fun hc3 => ?_) (fun hc3 => ?_)
    · refine wc_region ?_
      refine wl_v rfl (val_move (lk rfl)) ?_
      refine wl_v rfl (val_move (lk rfl)) ?_
      refine wl_v rfl (val_move (lk rfl)) ?_
      refine wl_v rfl (val_index es_24 (lk rfl) (lk rfl) (fun hG => rfl) (fun hG => hlt)) ?_
      refine wl_v rfl (val_field fo_31_3 (lk rfl)) ?_
      refine wl_v rfl (val_load1 t1_3 (lk rfl) (own_fld (.tail _ (.tail _ (.head _))) encU_len d0U (i := k) (f := 3) (fun _ => hlt) rfl)) ?_
      refine wl_v rfl (val_add (lk rfl) (lk rfl)) ?_
      refine wl_v rfl (val_assign (lk rfl)) ?_
      refine wl_nil ?_
      refine px_block ?_
      refine px_then ?_
      refine wc_region ?_
      refine wl_v rfl (val_move (lk rfl)) ?_
      refine wl_v rfl (val_inc (lk rfl) (by omega)) ?_
      refine wl_v rfl (val_assign (lk rfl)) ?_
      refine wl_nil ?_
      have hst : bytesU ys14 xg14.vis (k + 1) = if (nth d0U ys14 k).net == xg14.vis then IntKind.i64.wrap (bytesU ys14 xg14.vis k + (nth d0U ys14 k).byt) else bytesU ys14 xg14.vis k := rfl
      refine px_round0 (k + 1) (by omega) (by omega) (⟨slotI (by rw [hst]; simp_all), rfl, rfl, rfl, rfl, rfl, rfl, slotI (by rw [hst]; simp_all), rfl, trivial⟩) (fun _ h => h.dropN 0 rfl)
    refine wc_skip ?_
    refine px_block ?_
    refine px_then ?_
    refine wc_region ?_
    refine wl_v rfl (val_move (lk rfl)) ?_
    refine wl_v rfl (val_inc (lk rfl) (by omega)) ?_
    refine wl_v rfl (val_assign (lk rfl)) ?_
    refine wl_nil ?_
    have hst : bytesU ys14 xg14.vis (k + 1) = if (nth d0U ys14 k).net == xg14.vis then IntKind.i64.wrap (bytesU ys14 xg14.vis k + (nth d0U ys14 k).byt) else bytesU ys14 xg14.vis k := rfl
    refine px_round0 (k + 1) (by omega) (by omega) (⟨slotI (by rw [hst]; simp_all), rfl, rfl, rfl, rfl, rfl, rfl, slotI (by rw [hst]; simp_all), rfl, trivial⟩) (fun _ h => h.dropN 0 rfl)
  have hge : k = ys14.length := by have h9 : ¬ ((k : Nat) : Int) < ((ys14.length : Nat) : Int) := of_decide_eq_false hc2; omega
  subst hge
  refine wc_exit ?_
  refine px_then_exit ?_
  refine px_then_exit ?_
  refine px_block_exit ?_
  refine px_then ?_
  refine wc_seq ?_
  refine wc_region ?_
  refine wl_v rfl (val_move (lk rfl)) ?_
  refine wl_v rfl (val_move (lk rfl)) ?_
  refine wl_v rfl (val_field fo_48_1 (lk rfl)) ?_
  refine wl_v rfl (val_load1 t1_3 (lk rfl) (cell_own (.head _) fun _ => rfl)) ?_
  refine wl_call gd_none rfl ci_25 (args3 (lk rfl) (lk rfl) (lk rfl)) (fun hG w1 hw => Agree_c xs14 ys14 _ _ _ _ _ _ _ _ xg14.vis w1 (Sl.own hw (.tail _ (.head _))) (Sl.own hw (.tail _ (.tail _ (.head _)))) (by omega) (by omega)) ?_
  refine wl_v rfl (val_assign (lk rfl)) ?_
  refine wl_nil ?_
  refine px_then ?_
  refine wc_seq ?_
  refine wc_region ?_
  refine wl_v rfl (val_move (lk rfl)) ?_
  refine wl_v rfl (val_field fo_48_3 (lk rfl)) ?_
  refine wl_v rfl (val_load1 t1_3 (lk rfl) (cell_own (.head _) fun _ => rfl)) ?_
  refine wl_v rfl (val_field fo_48_2 (lk rfl)) ?_
  refine wl_v rfl (val_load1 t1_3 (lk rfl) (cell_own (.head _) fun _ => rfl)) ?_
  refine wl_v rfl (val_move (lk rfl)) ?_
  refine wl_v rfl (val_mul (lk rfl) (lk rfl)) ?_
  refine wl_call gd_none rfl ci_33 (args2 (lk rfl) (lk rfl)) (fun hG w1 hw => sMin_c _ _ w1) ?_
  refine wl_v rfl (val_eql (lk rfl) (lk rfl)) ?_
  refine wl_v rfl (val_move (lk rfl)) ?_
  refine wl_val (gd_t rfl rfl rfl) rfl (val_move (lk rfl)) ?_
  refine wl_val (gd_t rfl rfl rfl) rfl (val_move (lk rfl)) ?_
  refine wl_val (gd_t rfl rfl rfl) rfl (val_leq (lkg rfl) (lkg rfl)) ?_
  refine wl_v rfl (val_and (lk rfl) (lkg rfl)) ?_
  refine wl_v rfl (val_move (lk rfl)) ?_
  refine wl_val (gd_t rfl rfl rfl) rfl (val_move (lk rfl)) ?_
  refine wl_val (gd_t rfl rfl rfl) rfl (val_move (lk rfl)) ?_
  refine wl_val (gd_t rfl rfl rfl) rfl (val_field fo_48_1 (lk rfl)) ?_
  refine wl_val (gd_t rfl rfl rfl) rfl (val_load1 t1_3 (lkg rfl) (cell_own (.head _) fun _ => rfl)) ?_
  refine wl_call (gd_t rfl rfl rfl) rfl ci_19 (args2 (lkg rfl) (lkg rfl)) (fun hG w1 hw => sBytesU_c xs14 _ _ _ _ xg14.vis w1 (Sl.own hw (.tail _ (.head _))) (by omega)) ?_
  refine wl_val (gd_t rfl rfl rfl) rfl (val_leq (lkg rfl) (lkg rfl)) ?_
  refine wl_v rfl (val_and (lk rfl) (lkg rfl)) ?_
  refine wl_v rfl (val_move (lk rfl)) ?_
  refine wl_val (gd_t rfl rfl rfl) rfl (val_move (lk rfl)) ?_
  refine wl_val (gd_t rfl rfl rfl) rfl (val_move (lk rfl)) ?_
  refine wl_val (gd_t rfl rfl rfl) rfl (val_move (lk rfl)) ?_
  refine wl_val (gd_t rfl rfl rfl) rfl (val_field fo_48_1 (lk rfl)) ?_
  refine wl_val (gd_t rfl rfl rfl) rfl (val_load1 t1_3 (lkg rfl) (cell_own (.head _) fun _ => rfl)) ?_
  refine wl_call (gd_t rfl rfl rfl) rfl ci_25 (args3 (lkg rfl) (lkg rfl) (lkg rfl)) (fun hG w1 hw => Agree_c ys14 xs14 _ _ _ _ _ _ _ _ xg14.vis w1 (Sl.own hw (.tail _ (.tail _ (.head _)))) (Sl.own hw (.tail _ (.head _))) (by omega) (by omega)) ?_
  refine wl_val (gd_t rfl rfl rfl) rfl (val_eql (lkg rfl) (lkg rfl)) ?_
  refine wl_v rfl (val_and (lk rfl) (lkg rfl)) ?_
  refine wl_v rfl (val_move (lk rfl)) ?_
  refine wl_val (gd_t rfl rfl rfl) rfl (val_move (lk rfl)) ?_
  refine wl_val (gd_t rfl rfl rfl) rfl (val_move (lk rfl)) ?_
  refine wl_val (gd_t rfl rfl rfl) rfl (val_field fo_48_1 (lk rfl)) ?_
  refine wl_val (gd_t rfl rfl rfl) rfl (val_load1 t1_3 (lkg rfl) (cell_own (.head _) fun _ => rfl)) ?_
  refine wl_call (gd_t rfl rfl rfl) rfl ci_25 (args3 (lkg rfl) (lkg rfl) (lkg rfl)) (fun hG w1 hw => Agree_c ys14 ys14 _ _ _ _ _ _ _ _ xg14.vis w1 (Sl.own hw (.tail _ (.tail _ (.head _)))) (Sl.own hw (.tail _ (.tail _ (.head _)))) (by omega) (by omega)) ?_
  refine wl_val (gd_t rfl rfl rfl) rfl (val_move (lk rfl)) ?_
  refine wl_val (gd_t rfl rfl rfl) rfl (val_eql (lkg rfl) (lkg rfl)) ?_
  refine wl_v rfl (val_and (lk rfl) (lkg rfl)) ?_
  refine wl_v rfl (val_assign (lk rfl)) ?_
  refine wl_nil ?_
  refine px_then ?_
  refine wc_ret ?_
  refine fin1 rfl (res_tmp rfl) (fun w1 hw => ?_)
  exact ⟨congrArg (fun x => Ending.returned (.bool x)) (settle_law hc1), hw.drop rfl⟩

theorem law_DisputesD (A : Option Addr) (n b o c : Nat) (w : World) (hk : Cod w A n b o) :
    Calls Try.prog 5 #[.slice A n c] w fun e w' => e = .returned (.bool true) ∧ HP w [] w' := by
  refine calls_entry [] _ Try.func5 rfl Try.ntmps5 (HP.refl w) (env1 rfl) ?_
  refine wc_seq ?_
  refine wc_region ?_
  refine wl_v rfl (val_assign lkc) ?_
  refine wl_nil ?_
  refine px_then ?_
  refine wc_seq ?_
  refine wc_seq ?_
  refine wc_region ?_
  refine wl_v rfl (val_move (lk rfl)) ?_
  refine wl_call gd_none rfl ci_9 (args1 (lk rfl)) (fun hG w1 hw => big_c _ _ _ w1) ?_
  refine wl_nil ?_
  refine px_then ?_
  refine wc_cond (lk rfl) (fun hc0 => ?_) (fun hc0 => ?_)
  · refine wc_seq ?_
    refine wc_region ?_
    refine wl_v rfl (val_assign lkc) ?_
    refine wl_nil ?_
    refine px_then ?_
    refine wc_ret ?_
    refine px_then_ret ?_
    refine fin1 rfl (res_tmp rfl) (fun w1 hw => ?_)
    exact ⟨rfl, hw.drop rfl⟩
  have hn : n ≤ 1048576 := by have := of_decide_eq_false hc0; omega
  refine wc_skip ?_
  refine px_then ?_
  refine wc_seq ?_
  refine wc_region ?_
  refine wl_v rfl (val_move (lk rfl)) ?_
  refine wl_callx rfl ci_20 (args1 (lk rfl)) (fun w1 hw => DrawDisp_c _ _ _ _ _ w1 (hk.hp hw rfl)) (fun _ => rfl) ?_
  rintro ⟨⟨xs17, gr17, gc17, gs17⟩, ⟨ys17, gy17, yc17, zs17⟩, x17⟩ ⟨⟨hgl17, hgc17⟩, ⟨hyl17, hyc17⟩, hok17, hlen17, hleny17⟩
  simp only at hgl17 hgc17 hyl17 hyc17 hok17 hlen17 hleny17
  refine wl_v rfl (val_move (lk rfl)) ?_
  refine wl_v rfl (val_extract (lk rfl) rfl) ?_
  refine wl_v rfl (val_extract (lk rfl) rfl) ?_
  refine wl_v rfl (val_extract (lk rfl) rfl) ?_
  refine wl_v rfl (val_assign (lk rfl)) ?_
  refine wl_v rfl (val_assign (lk rfl)) ?_
  refine wl_v rfl (val_assign (lk rfl)) ?_
  refine wl_nil ?_
  refine px_then ?_
  refine wc_seq ?_
  refine wc_region ?_
  refine wl_v rfl (val_move (lk rfl)) ?_
  refine wl_v rfl (val_move (lk rfl)) ?_
  refine wl_v rfl (val_move (lk rfl)) ?_
  refine wl_callx rfl ci_21 (args3 (lk rfl) (lk rfl) (lk rfl)) (fun w1 hw => Disp_c xs17 ys17 _ _ _ _ _ _ _ _ x17 w1 (Sl.own hw (.head _)) (Sl.own hw (.tail _ (.head _))) (by omega) (by omega)) (fun _ => rfl) ?_
  rintro ⟨gb24, gc24, gs24⟩ ⟨hgl24, hgc24⟩
  have hdl := dispU_len xs17 ys17 x17 ys17.length
  refine wl_v rfl (val_assign (lk rfl)) ?_
  refine wl_nil ?_
  refine px_then ?_
  refine wc_seq ?_
  refine wc_seq ?_
  refine wc_region ?_
  refine wl_v rfl (val_move (lk rfl)) ?_
  refine wl_call gd_none rfl ci_22 (args1 (lk rfl)) (fun hG w1 hw => sOkAll_c xs17 _ _ _ _ w1 (Sl.own hw (.tail _ (.head _))) (by omega) (cap_le encU_len (by decide) hgl17)) ?_
  refine wl_v rfl (val_not (lk rfl)) ?_
  refine wl_v rfl (val_move (lk rfl)) ?_
  refine wl_val (gd_f rfl rfl rfl) rfl (val_move (lk rfl)) ?_
  refine wl_call (gd_f rfl rfl rfl) rfl ci_22 (args1 (lkg rfl)) (fun hG w1 hw => sOkAll_c ys17 _ _ _ _ w1 (Sl.own hw (.tail _ (.tail _ (.head _)))) (by omega) (cap_le encU_len (by decide) hyl17)) ?_
  refine wl_val (gd_f rfl rfl rfl) rfl (val_not (lkg rfl)) ?_
  refine wl_v rfl (val_or (lk rfl) (lkg rfl)) ?_
  refine wl_nil ?_
  refine px_then ?_
  refine wc_cond (lk rfl) (fun hc1 => ?_) (fun hc1 => ?_)
  · refine wc_seq ?_
    refine wc_region ?_
    refine wl_v rfl (val_move (lk rfl)) ?_
    refine wl_v rfl (val_len es_24 (lk rfl)) ?_
    refine wl_v rfl (val_move (lk rfl)) ?_
    refine wl_v rfl (val_move (lk rfl)) ?_
    refine wl_v rfl (val_move (lk rfl)) ?_
    refine wl_callx rfl ci_23 (args3 (lk rfl) (lk rfl) (lk rfl)) (fun w1 hw => sDisp_c xs17 ys17 _ _ _ _ _ _ _ _ x17 w1 (Sl.own hw (.tail _ (.head _))) (Sl.own hw (.tail _ (.tail _ (.head _)))) (by omega) (by omega)) (fun _ => rfl) ?_
    rintro ⟨gb38, gc38, gs38⟩ ⟨hgl38, hgc38⟩
    refine wl_v rfl (val_len es_24 (lk rfl)) ?_
    refine wl_v rfl (val_eql (lk rfl) (lk rfl)) ?_
    refine wl_v rfl (val_assign (lk rfl)) ?_
    refine wl_nil ?_
    refine px_then ?_
    refine wc_ret ?_
    refine px_then_ret ?_
    refine fin1 rfl (res_tmp rfl) (fun w1 hw => ?_)
    exact ⟨congrArg (fun x => Ending.returned (.bool x)) (disp_no_law), hw.drop rfl⟩
  have hoks : okAll xs17 = true ∧ okAll ys17 = true := by revert hc1; cases okAll xs17 <;> cases okAll ys17 <;> simp
  refine wc_skip ?_
  refine px_then ?_
  refine wc_seq ?_
  refine wc_region ?_
  refine wl_v rfl (val_assign lkc) ?_
  refine wl_nil ?_
  refine px_then ?_
  refine wc_seq ?_
  refine wc_seq ?_
  refine wc_region ?_
  refine wl_v rfl (val_assign lkc) ?_
  refine wl_nil ?_
  refine px_then ?_
  refine wc_block ?_
  refine wc_trim (l' := [(2, _), (3, _), (4, _), (5, _), (6, _), (7, _), (8, _)]) ⟨rfl, rfl, rfl, rfl, rfl, rfl, rfl, trivial⟩ ?_
  refine wc_loop0 (X := Nat) (fun k => k ≤ ys17.length) (fun k => [(7, (true, .int .i64 (bytesU ys17 x17 k))), (8, (true, .int .i64 (k : Nat)))]) (fun k => ys17.length - k) 0 (Nat.zero_le _) ⟨rfl, rfl, rfl, rfl, rfl, rfl, rfl, rfl, rfl, trivial⟩ ?_
  intro k hk0
  refine wc_seq ?_
  refine wc_seq ?_
  refine wc_region ?_
  refine wl_v rfl (val_move (lk rfl)) ?_
  refine wl_v rfl (val_move (lk rfl)) ?_
  refine wl_v rfl (val_len es_24 (lk rfl)) ?_
  refine wl_v rfl (val_lss (lk rfl) (lk rfl)) ?_
  refine wl_nil ?_
  refine px_then ?_
  refine wc_cond (lk rfl) (fun hc2 => ?_) (fun hc2 => ?_)
  · have hlt : k < ys17.length := by have h9 : ((k : Nat) : Int) < ((ys17.length : Nat) : Int) := of_decide_eq_true hc2; omega
    refine wc_skip ?_
    refine px_then ?_
    refine wc_seq ?_
    refine wc_block ?_
    refine wc_seq ?_
    refine wc_region ?_
    refine wl_v rfl (val_move (lk rfl)) ?_
    refine wl_v rfl (val_move (lk rfl)) ?_
    refine wl_v rfl (val_index es_24 (lk rfl) (lk rfl) (fun hG => rfl) (fun hG => hlt)) ?_
    refine wl_v rfl (val_field fo_31_0 (lk rfl)) ?_
    refine wl_v rfl (val_load1 t1_3 (lk rfl) (own_fld (.tail _ (.tail _ (.head _))) encU_len d0U (i := k) (f := 0) (fun _ => hlt) rfl)) ?_
    refine wl_v rfl (val_move (lk rfl)) ?_
    refine wl_v rfl (val_eql (lk rfl) (lk rfl)) ?_
    refine wl_nil ?_
    refine px_then ?_
    refine wc_cond (lk rfl) (fun hc3 => ?_) (fun hc3 => ?_)
    · refine wc_region ?_
      refine wl_v rfl (val_move (lk rfl)) ?_
      refine wl_v rfl (val_move (lk rfl)) ?_
      refine wl_v rfl (val_move (lk rfl)) ?_
      refine wl_v rfl (val_index es_24 (lk rfl) (lk rfl) (fun hG => rfl) (fun hG => hlt)) ?_
      refine wl_v rfl (val_field fo_31_3 (lk rfl)) ?_
      refine wl_v rfl (val_load1 t1_3 (lk rfl) (own_fld (.tail _ (.tail _ (.head _))) encU_len d0U (i := k) (f := 3) (fun _ => hlt) rfl)) ?_
      refine wl_v rfl (val_add (lk rfl) (lk rfl)) ?_
      refine wl_v rfl (val_assign (lk rfl)) ?_
      refine wl_nil ?_
      refine px_block ?_
      refine px_then ?_
      refine wc_region ?_
      refine wl_v rfl (val_move (lk rfl)) ?_
      refine wl_v rfl (val_inc (lk rfl) (by omega)) ?_
      refine wl_v rfl (val_assign (lk rfl)) ?_
      refine wl_nil ?_
      have hst : bytesU ys17 x17 (k + 1) = if (nth d0U ys17 k).net == x17 then IntKind.i64.wrap (bytesU ys17 x17 k + (nth d0U ys17 k).byt) else bytesU ys17 x17 k := rfl
      refine px_round0 (k + 1) (by omega) (by omega) (⟨slotI (by rw [hst]; simp_all), rfl, rfl, rfl, rfl, rfl, rfl, slotI (by rw [hst]; simp_all), rfl, trivial⟩) (fun _ h => h.dropN 0 rfl)
    refine wc_skip ?_
    refine px_block ?_
    refine px_then ?_
    refine wc_region ?_
    refine wl_v rfl (val_move (lk rfl)) ?_
    refine wl_v rfl (val_inc (lk rfl) (by omega)) ?_
    refine wl_v rfl (val_assign (lk rfl)) ?_
    refine wl_nil ?_
    have hst : bytesU ys17 x17 (k + 1) = if (nth d0U ys17 k).net == x17 then IntKind.i64.wrap (bytesU ys17 x17 k + (nth d0U ys17 k).byt) else bytesU ys17 x17 k := rfl
    refine px_round0 (k + 1) (by omega) (by omega) (⟨slotI (by rw [hst]; simp_all), rfl, rfl, rfl, rfl, rfl, rfl, slotI (by rw [hst]; simp_all), rfl, trivial⟩) (fun _ h => h.dropN 0 rfl)
  have hge : k = ys17.length := by have h9 : ¬ ((k : Nat) : Int) < ((ys17.length : Nat) : Int) := of_decide_eq_false hc2; omega
  subst hge
  refine wc_exit ?_
  refine px_then_exit ?_
  refine px_then_exit ?_
  refine px_block_exit ?_
  refine px_then ?_
  refine wc_seq ?_
  refine wc_region ?_
  refine wl_v rfl (val_assign lkc) ?_
  refine wl_nil ?_
  refine px_then ?_
  refine wc_seq ?_
  refine wc_seq ?_
  refine wc_region ?_
  refine wl_v rfl (val_assign lkc) ?_
  refine wl_nil ?_
  refine px_then ?_
  refine wc_block ?_
  refine wc_trim (l' := [(2, _), (3, _), (4, _), (5, _), (6, _), (7, _), (9, _), (10, _)]) ⟨rfl, rfl, rfl, rfl, rfl, rfl, rfl, rfl, trivial⟩ ?_
  refine wc_loop0 (X := Nat) (fun k => k ≤ (dispU xs17 ys17 x17 ys17.length).length) (fun k => [(9, (true, .int .i64 (totB (dispU xs17 ys17 x17 ys17.length) k))), (10, (true, .int .i64 (k : Nat)))]) (fun k => (dispU xs17 ys17 x17 ys17.length).length - k) 0 (Nat.zero_le _) ⟨rfl, rfl, rfl, rfl, rfl, rfl, rfl, rfl, rfl, rfl, trivial⟩ ?_
  intro k hk0
  refine wc_seq ?_
  refine wc_seq ?_
  refine wc_region ?_
  refine wl_v rfl (val_move (lk rfl)) ?_
  refine wl_v rfl (val_move (lk rfl)) ?_
  refine wl_v rfl (val_len es_24 (lk rfl)) ?_
  refine wl_v rfl (val_lss (lk rfl) (lk rfl)) ?_
  refine wl_nil ?_
  refine px_then ?_
  refine wc_cond (lk rfl) (fun hc4 => ?_) (fun hc4 => ?_)
  · have hlt : k < (dispU xs17 ys17 x17 ys17.length).length := by have h9 : ((k : Nat) : Int) < (((dispU xs17 ys17 x17 ys17.length).length : Nat) : Int) := of_decide_eq_true hc4; omega
    refine wc_skip ?_
    refine px_then ?_
    refine wc_seq ?_
    refine wc_block ?_
    refine wc_seq ?_
    refine wc_region ?_
    refine wl_v rfl (val_move (lk rfl)) ?_
    refine wl_v rfl (val_move (lk rfl)) ?_
    refine wl_v rfl (val_move (lk rfl)) ?_
    refine wl_v rfl (val_index es_24 (lk rfl) (lk rfl) (fun hG => rfl) (fun hG => hlt)) ?_
    refine wl_v rfl (val_loadN ag_31 (lk rfl) rfl (own_rec (.head _) encU_len d0U (fun _ => hlt))) ?_
    refine wl_call gd_none rfl ci_24 (args2 (lk rfl) (lk rfl)) (fun hG w1 hw => sFindU_c xs17 _ _ _ _ (nth d0U (dispU xs17 ys17 x17 ys17.length) k) w1 (Sl.own hw (.tail _ (.head _))) (by omega)) ?_
    refine wl_v rfl (val_assign (lk rfl)) ?_
    refine wl_nil ?_
    refine px_then ?_
    refine wc_seq ?_
    refine wc_seq ?_
    refine wc_region_q mo_ (by kernel_rfl) ?_
    refine wq_v rfl (val_move (lk rfl)) ?_
    refine wq_v rfl (val_move (lk rfl)) ?_
    refine wq_v rfl (val_index es_24 (lk rfl) (lk rfl) (fun hG => rfl) (fun hG => hlt)) ?_
    refine wq_v rfl (val_field fo_31_0 (lk rfl)) ?_
    refine wq_v rfl (val_load1 t1_3 (lk rfl) (own_fld (.head _) encU_len d0U (i := k) (f := 0) (fun _ => hlt) rfl)) ?_
    refine wq_v rfl (val_move (lk rfl)) ?_
    refine wq_v rfl (val_neq (lk rfl) (lk rfl)) ?_
    refine wq_v rfl (val_move (lk rfl)) ?_
    refine wq_val (gd_f rfl rfl rfl) rfl (val_move (lk rfl)) ?_
    refine wq_val (gd_f rfl rfl rfl) rfl (val_geq (lkg rfl) lkc) ?_
    refine wq_val (gd_f rfl rfl rfl) rfl (val_move (lkg rfl)) ?_
    refine wq_val (gd_gt rfl rfl rfl) rfl (val_move (lk rfl)) ?_
    refine wq_val (gd_gt rfl rfl rfl) rfl (val_move (lk rfl)) ?_
    refine wq_val (gd_gt rfl rfl rfl) rfl (val_indexI es_24 (lkg rfl) (lkg rfl) (fun _ => rfl) (fun hG => ⟨(by simp at hG; omega), (findU_lt (by simp at hG; omega)).2⟩)) ?_
    refine wq_val (gd_gt rfl rfl rfl) rfl (val_field fo_31_3 (lkg rfl)) ?_
    refine wq_val (gd_gt rfl rfl rfl) rfl (val_load1 t1_3 (lkg rfl) (own_fld (.tail _ (.head _)) encU_len d0U (i := (findU xs17 (nth d0U (dispU xs17 ys17 x17 ys17.length) k)).toNat) (f := 3) (fun hG => (findU_lt (by simp at hG; omega)).1) rfl)) ?_
    refine wq_val (gd_gt rfl rfl rfl) rfl (val_move (lk rfl)) ?_
    refine wq_val (gd_gt rfl rfl rfl) rfl (val_move (lk rfl)) ?_
    refine wq_val (gd_gt rfl rfl rfl) rfl (val_index es_24 (lkg rfl) (lkg rfl) (fun hG => rfl) (fun hG => hlt)) ?_
    refine wq_val (gd_gt rfl rfl rfl) rfl (val_field fo_31_3 (lkg rfl)) ?_
    refine wq_val (gd_gt rfl rfl rfl) rfl (val_load1 t1_3 (lkg rfl) (own_fld (.head _) encU_len d0U (i := k) (f := 3) (fun _ => hlt) rfl)) ?_
    refine wq_val (gd_gt rfl rfl rfl) rfl (val_geq (lkg rfl) (lkg rfl)) ?_
    refine wq_val (gd_f rfl rfl rfl) rfl (val_and (lkg rfl) (lkg rfl)) ?_
    refine wq_v rfl (val_or (lk rfl) (lkg rfl)) ?_
    refine wq_nil ?_
    refine px_then ?_
    refine wc_cond (lk rfl) (fun hc5 => ?_) (fun hc5 => ?_)
    · (exfalso; have h9 := disp_chk (own := xs17) (vis := x17) hoks.2 hlt; rw [h9] at hc5; exact Bool.noConfusion hc5)
    refine wc_skip ?_
    refine px_then ?_
    refine wc_region ?_
    refine wl_v rfl (val_move (lk rfl)) ?_
    refine wl_v rfl (val_move (lk rfl)) ?_
    refine wl_v rfl (val_move (lk rfl)) ?_
    refine wl_v rfl (val_index es_24 (lk rfl) (lk rfl) (fun hG => rfl) (fun hG => hlt)) ?_
    refine wl_v rfl (val_field fo_31_3 (lk rfl)) ?_
    refine wl_v rfl (val_load1 t1_3 (lk rfl) (own_fld (.head _) encU_len d0U (i := k) (f := 3) (fun _ => hlt) rfl)) ?_
    refine wl_v rfl (val_add (lk rfl) (lk rfl)) ?_
    refine wl_v rfl (val_assign (lk rfl)) ?_
    refine wl_nil ?_
    refine px_block ?_
    refine px_then ?_
    refine wc_region ?_
    refine wl_v rfl (val_move (lk rfl)) ?_
    refine wl_v rfl (val_inc (lk rfl) (by omega)) ?_
    refine wl_v rfl (val_assign (lk rfl)) ?_
    refine wl_nil ?_
    refine px_round0 (k + 1) (by omega) (by omega) (⟨rfl, rfl, rfl, rfl, rfl, rfl, rfl, rfl, rfl, rfl, trivial⟩) (fun _ h => h.dropN 0 rfl)
  have hge : k = (dispU xs17 ys17 x17 ys17.length).length := by have h9 : ¬ ((k : Nat) : Int) < (((dispU xs17 ys17 x17 ys17.length).length : Nat) : Int) := of_decide_eq_false hc4; omega
  subst hge
  refine wc_exit ?_
  refine px_then_exit ?_
  refine px_then_exit ?_
  refine px_block_exit ?_
  refine px_then ?_
  refine wc_seq ?_
  refine wc_region ?_
  refine wl_v rfl (val_move (lk rfl)) ?_
  refine wl_v rfl (val_move (lk rfl)) ?_
  refine wl_v rfl (val_move (lk rfl)) ?_
  refine wl_call gd_none rfl ci_25 (args3 (lk rfl) (lk rfl) (lk rfl)) (fun hG w1 hw => Agree_c xs17 ys17 _ _ _ _ _ _ _ _ x17 w1 (Sl.own hw (.tail _ (.head _))) (Sl.own hw (.tail _ (.tail _ (.head _)))) (by omega) (by omega)) ?_
  refine wl_v rfl (val_assign (lk rfl)) ?_
  refine wl_nil ?_
  refine px_then ?_
  refine wc_seq ?_
  refine wc_region ?_
  refine wl_v rfl (val_move (lk rfl)) ?_
  refine wl_v rfl (val_move (lk rfl)) ?_
  refine wl_v rfl (val_move (lk rfl)) ?_
  refine wl_v rfl (val_sub (lk rfl) (lk rfl)) ?_
  refine wl_v rfl (val_geq (lk rfl) (lk rfl)) ?_
  refine wl_v rfl (val_move (lk rfl)) ?_
  refine wl_val (gd_t rfl rfl rfl) rfl (val_move (lk rfl)) ?_
  refine wl_val (gd_t rfl rfl rfl) rfl (val_move (lk rfl)) ?_
  refine wl_val (gd_t rfl rfl rfl) rfl (val_leq (lkg rfl) (lkg rfl)) ?_
  refine wl_v rfl (val_and (lk rfl) (lkg rfl)) ?_
  refine wl_v rfl (val_move (lk rfl)) ?_
  refine wl_val (gd_t rfl rfl rfl) rfl (val_move (lk rfl)) ?_
  refine wl_val (gd_t rfl rfl rfl) rfl (val_len es_24 (lkg rfl)) ?_
  refine wl_val (gd_t rfl rfl rfl) rfl (val_gtr (lkg rfl) lkc) ?_
  refine wl_val (gd_t rfl rfl rfl) rfl (val_move (lkg rfl)) ?_
  refine wl_val (gd_gf rfl rfl rfl) rfl (val_move (lk rfl)) ?_
  refine wl_val (gd_gf rfl rfl rfl) rfl (val_move (lk rfl)) ?_
  refine wl_val (gd_gf rfl rfl rfl) rfl (val_eql (lkg rfl) (lkg rfl)) ?_
  refine wl_val (gd_t rfl rfl rfl) rfl (val_or (lkg rfl) (lkg rfl)) ?_
  refine wl_v rfl (val_and (lk rfl) (lkg rfl)) ?_
  refine wl_v rfl (val_assign (lk rfl)) ?_
  refine wl_nil ?_
  refine px_then ?_
  refine wc_ret ?_
  refine fin1 rfl (res_tmp rfl) (fun w1 hw => ?_)
  exact ⟨congrArg (fun x => Ending.returned (.bool x)) (disp_law hc1), hw.drop rfl⟩

end Go.Proofs.Ytcdinidpclmmeaa
