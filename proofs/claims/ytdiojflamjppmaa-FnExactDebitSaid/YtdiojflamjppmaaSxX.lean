/- The laws on accounts that hand back accounts: walked. -/
import Derived.Test.YtdiojflamjppmaaSxV
namespace Go.Proofs.Ytdiojflamjppmaa
open Go.RowKit

theorem law_Release (a : Acc) (A : Option Addr) (b o c : Nat) (id : Int) (w : World) (hs : Sl w A b o (flat encR a.res)) (hm : a.res.length ≤ 9223372036854775807) :
    Calls Try.prog 3 #[a.val A c, .int .i64 id] w fun e w' => e = .returned (.bool true) ∧ HP w [] w' := by
  refine calls_entry [] _ Try.func3 rfl Try.ntmps3 (HP.refl w) (env2 rfl) ?_
  refine wc_seq ?_
  refine wc_region ?_
  refine wl_box (lk rfl) rfl fun b1 => ?_
  refine wl_v rfl (val_assign lkc) ?_
  refine wl_nil ?_
  refine px_then ?_
  refine wc_seq ?_
  refine wc_region ?_
  refine wl_v rfl (val_assign lkc) ?_
  refine wl_nil ?_
  refine px_then ?_
  refine wc_seq ?_
  refine wc_region ?_
  refine wl_v rfl (val_loadB (.head _) (lk rfl) ag_24) ?_
  refine wl_v rfl (val_move (lk rfl)) ?_
  refine wl_call gd_none rfl ci_13 (args2 (lk rfl) (lk rfl)) (fun hG w1 hw => szAcc_c a _ _ _ w1 (by omega) hm) ?_
  refine wl_v rfl (val_assign (lk rfl)) ?_
  refine wl_nil ?_
  refine px_then ?_
  refine wc_seq ?_
  refine wc_seq ?_
  refine wc_region ?_
  refine wl_v rfl (val_move (lk rfl)) ?_
  refine wl_v rfl (val_lss (lk rfl) lkc) ?_
  refine wl_nil ?_
  refine px_then ?_
  refine wc_cond (lk rfl) (fun hc0 => ?_) (fun hc0 => ?_)
  · refine wc_seq ?_
    refine wc_region ?_
    refine wl_v rfl (val_assign lkc) ?_
    refine wl_nil ?_
    refine px_then ?_
    refine wc_ret ?_
    refine px_then_ret ?_
    refine fin1 rfl (res_tmp rfl) (fun w1 hw => ?_)
    first | exact ⟨rfl, hw.drop rfl⟩ | (exfalso; revert hc0; simp; done) | (exfalso; revert hc0; simp; omega) | (exfalso; revert hc0; rw [Acc.eqb_refl]; simp; done) | (exfalso; revert hc0; rw [Acc.eqb_refl]; simp; omega) | (exfalso; revert hc0; rw [Quota.eqb_refl]; simp; done) | (exfalso; revert hc0; rw [Acc.eqb_refl, Quota.eqb_refl]; simp; done) | (exfalso; revert hc0; rw [Acc.eqb_refl, Quota.eqb_refl]; simp; omega) | (exfalso; have h9 := of_decide_eq_true hc0; omega)
  have hl : a.res.length ≤ 1048576 := by have h9 := of_decide_eq_false hc0; unfold szN at h9; split at h9 <;> omega
  have hdl := Acc.rel_len a id
  refine wc_skip ?_
  refine px_then ?_
  refine wc_seq ?_
  refine wc_region ?_
  refine wl_v rfl (val_loadB (.head _) (lk rfl) ag_24) ?_
  refine wl_callx rfl ci_15 (args1 (lk rfl)) (fun w1 hw => toAcc_c a _ _ _ _ w1 (hs.hp hw rfl) hl) (fun _ => rfl) ?_
  rintro ⟨gb19, gc19, gs19⟩ ⟨hgl19, hgc19⟩
  refine wl_v rfl (val_move (lk rfl)) ?_
  refine wl_callx rfl ci_14 (args2 (lk rfl) (lk rfl)) (fun w1 hw => sRelease_c a _ _ _ _ id w1 (Sl.own hw (.head _)) hl (cap_le encR_len (by decide) hgl19)) (fun _ => rfl) ?_
  rintro ⟨gb21, gc21, gs21⟩ ⟨hgl21, hgc21⟩
  refine wl_alloc zc_28 rfl fun b2 => ?_
  refine wl_storeB 0 rfl (lk rfl) (lk rfl) ag_28 rfl rfl ?_
  refine wl_nil ?_
  refine px_then ?_
  refine wc_seq ?_
  refine wc_region ?_
  refine wl_v rfl (val_loadB (.tail _ (.tail _ (.tail _ (.head _)))) (lk rfl) ag_24) ?_
  refine wl_callx rfl ci_15 (args1 (lk rfl)) (fun w1 hw => toAcc_c a _ _ _ _ w1 (hs.hp hw rfl) hl) (fun _ => rfl) ?_
  rintro ⟨gb23, gc23, gs23⟩ ⟨hgl23, hgc23⟩
  refine wl_alloc zc_28 rfl fun b3 => ?_
  refine wl_storeB 0 rfl (lk rfl) (lk rfl) ag_28 rfl rfl ?_
  refine wl_nil ?_
  refine px_then ?_
  refine wc_seq ?_
  refine wc_region ?_
  refine wl_v rfl (val_loadB (.head _) (lk rfl) ag_28) ?_
  refine wl_v rfl (val_move (lk rfl)) ?_
  refine wl_callx rfl ci_16 (args2 (lk rfl) (lk rfl)) (fun w1 hw => Release_c a _ _ _ _ id w1 (Sl.own hw (.tail _ (.head _))) hl) (fun _ => rfl) ?_
  rintro ⟨gb26, gc26, gs26⟩ ⟨hgl26, hgc26⟩
  refine wl_alloc zc_28 rfl fun b4 => ?_
  refine wl_storeB 0 rfl (lk rfl) (lk rfl) ag_28 rfl rfl ?_
  refine wl_nil ?_
  refine px_then ?_
  refine wc_seq ?_
  refine wc_seq ?_
  refine wc_region ?_
  refine wl_v rfl (val_loadB (.head _) (lk rfl) ag_28) ?_
  refine wl_v rfl (val_loadB (.tail _ (.tail _ (.tail _ (.tail _ (.head _))))) (lk rfl) ag_28) ?_
  refine wl_call gd_none rfl ci_17 (args2 (lk rfl) (lk rfl)) (fun hG w1 hw => eqAcc_c (a.rel id) (a.rel id) _ _ _ _ _ _ _ _ w1 (Sl.own hw (.tail _ (.head _))) (Sl.own hw (.tail _ (.tail _ (.tail _ (.tail _ (.tail _ (.head _))))))) (by omega)) ?_
  refine wl_v rfl (val_not (lk rfl)) ?_
  refine wl_nil ?_
  refine px_then ?_
  refine wc_cond (lk rfl) (fun hc1 => ?_) (fun hc1 => ?_)
  · refine wc_seq ?_
    refine wc_region ?_
    refine wl_v rfl (val_assign lkc) ?_
    refine wl_nil ?_
    refine px_then ?_
    refine wc_ret ?_
    refine px_then_ret ?_
    refine fin1 rfl (res_tmp rfl) (fun w1 hw => ?_)
    first | exact ⟨rfl, hw.drop rfl⟩ | (exfalso; revert hc1; simp; done) | (exfalso; revert hc1; simp; omega) | (exfalso; revert hc1; rw [Acc.eqb_refl]; simp; done) | (exfalso; revert hc1; rw [Acc.eqb_refl]; simp; omega) | (exfalso; revert hc1; rw [Quota.eqb_refl]; simp; done) | (exfalso; revert hc1; rw [Acc.eqb_refl, Quota.eqb_refl]; simp; done) | (exfalso; revert hc1; rw [Acc.eqb_refl, Quota.eqb_refl]; simp; omega) | (exfalso; have h9 := of_decide_eq_true hc1; omega)
  refine wc_skip ?_
  refine px_then ?_
  refine wc_seq ?_
  refine wc_seq ?_
  refine wc_region_a0 5 mo_ rfl ?_
  refine wa_take 0 rfl (by kernel_rfl) (by kernel_rfl) (by kernel_rfl) (by kernel_rfl) (fun _ h => h.dropN 0 rfl) gd_none rfl (val_loadB (.tail _ (.tail _ (.head _))) (lk rfl) ag_28) ?_
  refine wa_take 1 rfl (by kernel_rfl) (by kernel_rfl) (by kernel_rfl) (by kernel_rfl) (fun _ h => h.dropN 0 rfl) gd_none rfl (val_loadB (.tail _ (.tail _ (.tail _ (.tail _ (.tail _ (.tail _ (.tail _ (.head _)))))))) (lk rfl) ag_24) ?_
  refine wa_only 2 (by kernel_rfl) rfl ?_
  refine wl_callx rfl ci_15 (args1 (lk rfl)) (fun w1 hw => toAcc_c a _ _ _ _ w1 (hs.hp hw rfl) hl) (fun _ => rfl) ?_
  rintro ⟨gb33, gc33, gs33⟩ ⟨hgl33, hgc33⟩
  refine wl_nil (px_qn (fun _ h => h.dropN 1 rfl) ?_)
  refine wa_only 3 (by kernel_rfl) rfl ?_
  refine wl_call gd_none rfl ci_17 (args2 (lk rfl) (lk rfl)) (fun hG w1 hw => eqAcc_c (a) (a) _ _ _ _ _ _ _ _ w1 (Sl.own hw (.tail _ (.tail _ (.tail _ (.tail _ (.head _)))))) (Sl.own hw (.head _)) (by omega)) ?_
  refine wl_nil (px_qn (fun _ h => h.dropN 1 rfl) ?_)
  refine wa_take 4 rfl (by kernel_rfl) (by kernel_rfl) (by kernel_rfl) (by kernel_rfl) (fun _ h => h.dropN 1 rfl) gd_none rfl (val_not (lk rfl)) ?_
  refine wa_done (by kernel_rfl) ?_
  refine px_then ?_
  refine wc_cond (lk rfl) (fun hc2 => ?_) (fun hc2 => ?_)
  · refine wc_seq ?_
    refine wc_region ?_
    refine wl_v rfl (val_assign lkc) ?_
    refine wl_nil ?_
    refine px_then ?_
    refine wc_ret ?_
    refine px_then_ret ?_
    refine fin1 rfl (res_tmp rfl) (fun w1 hw => ?_)
    first | exact ⟨rfl, hw.drop rfl⟩ | (exfalso; revert hc2; simp; done) | (exfalso; revert hc2; simp; omega) | (exfalso; revert hc2; rw [Acc.eqb_refl]; simp; done) | (exfalso; revert hc2; rw [Acc.eqb_refl]; simp; omega) | (exfalso; revert hc2; rw [Quota.eqb_refl]; simp; done) | (exfalso; revert hc2; rw [Acc.eqb_refl, Quota.eqb_refl]; simp; done) | (exfalso; revert hc2; rw [Acc.eqb_refl, Quota.eqb_refl]; simp; omega) | (exfalso; have h9 := of_decide_eq_true hc2; omega)
  refine wc_skip ?_
  refine px_then ?_
  refine wc_seq ?_
  refine wc_region ?_
  refine wl_v rfl (val_assign lkc) ?_
  refine wl_nil ?_
  refine px_then ?_
  refine wc_seq ?_
  refine wc_region ?_
  refine wl_v rfl (val_loadB (.tail _ (.tail _ (.tail _ (.head _)))) (lk rfl) ag_28) ?_
  refine wl_v rfl (val_move (lk rfl)) ?_
  refine wl_callw 4 rfl ci_18 (args2 (lk rfl) (lk rfl)) rfl (fun w1 hw => markAcc_c (a) _ _ _ 1 _ w1 (fun _ => rfl) (hw.own _ (.tail _ (.tail _ (.tail _ (.tail _ (.head _)))))) (by omega) (by decide) (by rw [List.length_append, flat_len encR_len]; omega)) (fun _ => rfl) ?_
  rintro ⟨⟩ -
  refine wl_v rfl (val_assign (lk rfl)) ?_
  refine wl_nil ?_
  refine px_then ?_
  refine wc_seq ?_
  refine wc_seq ?_
  refine wc_region ?_
  refine wl_v rfl (val_move (lk rfl)) ?_
  refine wl_v rfl (val_lss (lk rfl) lkc) ?_
  refine wl_v rfl (val_move (lk rfl)) ?_
  refine wl_val (gd_f rfl rfl rfl) rfl (val_loadB (.tail _ (.head _)) (lk rfl) ag_28) ?_
  refine wl_val (gd_f rfl rfl rfl) rfl (val_loadB (.tail _ (.tail _ (.tail _ (.tail _ (.tail _ (.head _)))))) (lk rfl) ag_28) ?_
  refine wl_call (gd_f rfl rfl rfl) rfl ci_17 (args2 (lkg rfl) (lkg rfl)) (fun hG w1 hw => eqAcc_c (a.rel id) (a.rel id) _ _ _ _ _ _ _ _ w1 (Sl.own hw (.tail _ (.tail _ (.head _)))) (Sl.own hw (.tail _ (.tail _ (.tail _ (.tail _ (.tail _ (.tail _ (.head _)))))))) (by omega)) ?_
  refine wl_val (gd_f rfl rfl rfl) rfl (val_not (lkg rfl)) ?_
  refine wl_v rfl (val_or (lk rfl) (lkg rfl)) ?_
  refine wl_nil ?_
  refine px_then ?_
  refine wc_cond (lk rfl) (fun hc3 => ?_) (fun hc3 => ?_)
  · refine wc_seq ?_
    refine wc_region ?_
    refine wl_v rfl (val_assign lkc) ?_
    refine wl_nil ?_
    refine px_then ?_
    refine wc_ret ?_
    refine px_then_ret ?_
    refine fin1 rfl (res_tmp rfl) (fun w1 hw => ?_)
    first | exact ⟨rfl, hw.drop rfl⟩ | (exfalso; revert hc3; simp; done) | (exfalso; revert hc3; simp; omega) | (exfalso; revert hc3; rw [Acc.eqb_refl]; simp; done) | (exfalso; revert hc3; rw [Acc.eqb_refl]; simp; omega) | (exfalso; revert hc3; rw [Quota.eqb_refl]; simp; done) | (exfalso; revert hc3; rw [Acc.eqb_refl, Quota.eqb_refl]; simp; done) | (exfalso; revert hc3; rw [Acc.eqb_refl, Quota.eqb_refl]; simp; omega) | (exfalso; have h9 := of_decide_eq_true hc3; omega)
  refine wc_skip ?_
  refine px_then ?_
  refine wc_seq ?_
  refine wc_region ?_
  refine wl_v rfl (val_assign lkc) ?_
  refine wl_nil ?_
  refine px_then ?_
  refine wc_seq ?_
  refine wc_region ?_
  refine wl_v rfl (val_loadB (.tail _ (.head _)) (lk rfl) ag_28) ?_
  refine wl_v rfl (val_move (lk rfl)) ?_
  refine wl_callw 2 rfl ci_18 (args2 (lk rfl) (lk rfl)) rfl (fun w1 hw => markAcc_c (a.rel id) _ _ _ 1 _ w1 (fun _ => rfl) (hw.own _ (.tail _ (.tail _ (.head _)))) (by omega) (by decide) (by rw [List.length_append, flat_len encR_len]; omega)) (fun _ => rfl) ?_
  rintro ⟨⟩ -
  refine wl_v rfl (val_assign (lk rfl)) ?_
  refine wl_nil ?_
  refine px_then ?_
  refine wc_seq ?_
  refine wc_region ?_
  refine wl_v rfl (val_assign lkc) ?_
  refine wl_nil ?_
  refine px_then ?_
  refine wc_seq ?_
  refine wc_region ?_
  refine wl_v rfl (val_loadB (.tail _ (.head _)) (lk rfl) ag_28) ?_
  refine wl_v rfl (val_move (lk rfl)) ?_
  refine wl_call gd_none rfl ci_19 (args2 (lk rfl) (lk rfl)) (fun hG w1 hw => heldAcc_c (a.rel id) _ _ 0 _ 1 w1 (Sl.own hw (.tail _ (.tail _ (.head _)))) (by omega) (by decide)) ?_
  refine wl_v rfl (val_assign (lk rfl)) ?_
  refine wl_nil ?_
  refine px_then ?_
  refine wc_seq ?_
  refine wc_seq ?_
  refine wc_region ?_
  refine wl_v rfl (val_move (lk rfl)) ?_
  refine wl_v rfl (val_lss (lk rfl) lkc) ?_
  refine wl_nil ?_
  refine px_then ?_
  refine wc_cond (lk rfl) (fun hc4 => ?_) (fun hc4 => ?_)
  · refine wc_seq ?_
    refine wc_region ?_
    refine wl_v rfl (val_assign lkc) ?_
    refine wl_nil ?_
    refine px_then ?_
    refine wc_ret ?_
    refine px_then_ret ?_
    refine fin1 rfl (res_tmp rfl) (fun w1 hw => ?_)
    first | exact ⟨rfl, hw.drop rfl⟩ | (exfalso; revert hc4; simp; done) | (exfalso; revert hc4; simp; omega) | (exfalso; revert hc4; rw [Acc.eqb_refl]; simp; done) | (exfalso; revert hc4; rw [Acc.eqb_refl]; simp; omega) | (exfalso; revert hc4; rw [Quota.eqb_refl]; simp; done) | (exfalso; revert hc4; rw [Acc.eqb_refl, Quota.eqb_refl]; simp; done) | (exfalso; revert hc4; rw [Acc.eqb_refl, Quota.eqb_refl]; simp; omega) | (exfalso; have h9 := of_decide_eq_true hc4; omega)
  refine wc_skip ?_
  refine px_then ?_
  refine wc_seq ?_
  refine wc_seq ?_
  refine wc_region ?_
  refine wl_v rfl (val_move (lk rfl)) ?_
  refine wl_v rfl (val_move (lk rfl)) ?_
  refine wl_v rfl (val_neq (lk rfl) (lk rfl)) ?_
  refine wl_nil ?_
  refine px_then ?_
  refine wc_cond (lk rfl) (fun hc5 => ?_) (fun hc5 => ?_)
  · refine wc_seq ?_
    refine wc_region ?_
    refine wl_v rfl (val_assign lkc) ?_
    refine wl_nil ?_
    refine px_then ?_
    refine wc_ret ?_
    refine px_then_ret ?_
    refine fin1 rfl (res_tmp rfl) (fun w1 hw => ?_)
    first | exact ⟨rfl, hw.drop rfl⟩ | (exfalso; revert hc5; simp; done) | (exfalso; revert hc5; simp; omega) | (exfalso; revert hc5; rw [Acc.eqb_refl]; simp; done) | (exfalso; revert hc5; rw [Acc.eqb_refl]; simp; omega) | (exfalso; revert hc5; rw [Quota.eqb_refl]; simp; done) | (exfalso; revert hc5; rw [Acc.eqb_refl, Quota.eqb_refl]; simp; done) | (exfalso; revert hc5; rw [Acc.eqb_refl, Quota.eqb_refl]; simp; omega) | (exfalso; have h9 := of_decide_eq_true hc5; omega)
  refine wc_skip ?_
  refine px_then ?_
  refine wc_seq ?_
  refine wc_region ?_
  refine wl_v rfl (val_loadB (.tail _ (.tail _ (.tail _ (.tail _ (.tail _ (.tail _ (.tail _ (.tail _ (.head _))))))))) (lk rfl) ag_24) ?_
  refine wl_callx rfl ci_15 (args1 (lk rfl)) (fun w1 hw => toAcc_c a _ _ _ _ w1 (hs.hp hw rfl) hl) (fun _ => rfl) ?_
  rintro ⟨gb59, gc59, gs59⟩ ⟨hgl59, hgc59⟩
  refine wl_v rfl (val_move (lk rfl)) ?_
  refine wl_callx rfl ci_16 (args2 (lk rfl) (lk rfl)) (fun w1 hw => Release_c a _ _ _ _ id w1 (Sl.own hw (.head _)) hl) (fun _ => rfl) ?_
  rintro ⟨gb61, gc61, gs61⟩ ⟨hgl61, hgc61⟩
  refine wl_alloc zc_28 rfl fun b5 => ?_
  refine wl_storeB 0 rfl (lk rfl) (lk rfl) ag_28 rfl rfl ?_
  refine wl_nil ?_
  refine px_then ?_
  refine wc_seq ?_
  refine wc_seq ?_
  refine wc_region ?_
  refine wl_v rfl (val_loadB (.head _) (lk rfl) ag_28) ?_
  refine wl_v rfl (val_loadB (.tail _ (.tail _ (.tail _ (.tail _ (.tail _ (.tail _ (.tail _ (.tail _ (.head _))))))))) (lk rfl) ag_28) ?_
  refine wl_call gd_none rfl ci_17 (args2 (lk rfl) (lk rfl)) (fun hG w1 hw => eqAcc_c (a.rel id) (a.rel id) _ _ _ _ _ _ _ _ w1 (Sl.own hw (.tail _ (.head _))) (Sl.own hw (.tail _ (.tail _ (.tail _ (.tail _ (.tail _ (.tail _ (.tail _ (.tail _ (.tail _ (.head _))))))))))) (by omega)) ?_
  refine wl_v rfl (val_not (lk rfl)) ?_
  refine wl_nil ?_
  refine px_then ?_
  refine wc_cond (lk rfl) (fun hc6 => ?_) (fun hc6 => ?_)
  · refine wc_seq ?_
    refine wc_region ?_
    refine wl_v rfl (val_assign lkc) ?_
    refine wl_nil ?_
    refine px_then ?_
    refine wc_ret ?_
    refine px_then_ret ?_
    refine fin1 rfl (res_tmp rfl) (fun w1 hw => ?_)
    first | exact ⟨rfl, hw.drop rfl⟩ | (exfalso; revert hc6; simp; done) | (exfalso; revert hc6; simp; omega) | (exfalso; revert hc6; rw [Acc.eqb_refl]; simp; done) | (exfalso; revert hc6; rw [Acc.eqb_refl]; simp; omega) | (exfalso; revert hc6; rw [Quota.eqb_refl]; simp; done) | (exfalso; revert hc6; rw [Acc.eqb_refl, Quota.eqb_refl]; simp; done) | (exfalso; revert hc6; rw [Acc.eqb_refl, Quota.eqb_refl]; simp; omega) | (exfalso; have h9 := of_decide_eq_true hc6; omega)
  refine wc_skip ?_
  refine px_then ?_
  refine wc_seq ?_
  refine wc_region ?_
  refine wl_v rfl (val_assign lkc) ?_
  refine wl_nil ?_
  refine px_then ?_
  refine wc_seq ?_
  refine wc_region ?_
  refine wl_v rfl (val_loadB (.tail _ (.tail _ (.tail _ (.tail _ (.head _))))) (lk rfl) ag_28) ?_
  refine wl_v rfl (val_move (lk rfl)) ?_
  refine wl_call gd_none rfl ci_19 (args2 (lk rfl) (lk rfl)) (fun hG w1 hw => heldAcc_c (a.rel id) _ _ 0 _ 1 w1 (Sl.own hw (.tail _ (.tail _ (.tail _ (.tail _ (.tail _ (.head _))))))) (by omega) (by decide)) ?_
  refine wl_v rfl (val_assign (lk rfl)) ?_
  refine wl_nil ?_
  refine px_then ?_
  refine wc_seq ?_
  refine wc_seq ?_
  refine wc_region ?_
  refine wl_v rfl (val_move (lk rfl)) ?_
  refine wl_v rfl (val_lss (lk rfl) lkc) ?_
  refine wl_nil ?_
  refine px_then ?_
  refine wc_cond (lk rfl) (fun hc7 => ?_) (fun hc7 => ?_)
  · refine wc_seq ?_
    refine wc_region ?_
    refine wl_v rfl (val_assign lkc) ?_
    refine wl_nil ?_
    refine px_then ?_
    refine wc_ret ?_
    refine px_then_ret ?_
    refine fin1 rfl (res_tmp rfl) (fun w1 hw => ?_)
    first | exact ⟨rfl, hw.drop rfl⟩ | (exfalso; revert hc7; simp; done) | (exfalso; revert hc7; simp; omega) | (exfalso; revert hc7; rw [Acc.eqb_refl]; simp; done) | (exfalso; revert hc7; rw [Acc.eqb_refl]; simp; omega) | (exfalso; revert hc7; rw [Quota.eqb_refl]; simp; done) | (exfalso; revert hc7; rw [Acc.eqb_refl, Quota.eqb_refl]; simp; done) | (exfalso; revert hc7; rw [Acc.eqb_refl, Quota.eqb_refl]; simp; omega) | (exfalso; have h9 := of_decide_eq_true hc7; omega)
  refine wc_skip ?_
  refine px_then ?_
  refine wc_seq ?_
  refine wc_seq ?_
  refine wc_region ?_
  refine wl_v rfl (val_move (lk rfl)) ?_
  refine wl_v rfl (val_move (lk rfl)) ?_
  refine wl_v rfl (val_neq (lk rfl) (lk rfl)) ?_
  refine wl_nil ?_
  refine px_then ?_
  refine wc_cond (lk rfl) (fun hc8 => ?_) (fun hc8 => ?_)
  · refine wc_seq ?_
    refine wc_region ?_
    refine wl_v rfl (val_assign lkc) ?_
    refine wl_nil ?_
    refine px_then ?_
    refine wc_ret ?_
    refine px_then_ret ?_
    refine fin1 rfl (res_tmp rfl) (fun w1 hw => ?_)
    first | exact ⟨rfl, hw.drop rfl⟩ | (exfalso; revert hc8; simp; done) | (exfalso; revert hc8; simp; omega) | (exfalso; revert hc8; rw [Acc.eqb_refl]; simp; done) | (exfalso; revert hc8; rw [Acc.eqb_refl]; simp; omega) | (exfalso; revert hc8; rw [Quota.eqb_refl]; simp; done) | (exfalso; revert hc8; rw [Acc.eqb_refl, Quota.eqb_refl]; simp; done) | (exfalso; revert hc8; rw [Acc.eqb_refl, Quota.eqb_refl]; simp; omega) | (exfalso; have h9 := of_decide_eq_true hc8; omega)
  refine wc_skip ?_
  refine px_then ?_
  refine wc_seq ?_
  refine wc_region ?_
  refine wl_v rfl (val_assign lkc) ?_
  refine wl_nil ?_
  refine px_then ?_
  refine wc_ret ?_
  refine fin1 rfl (res_tmp rfl) (fun w1 hw => ?_)
  first | exact ⟨rfl, hw.drop rfl⟩ | (exfalso; revert hc8; simp; done) | (exfalso; revert hc8; simp; omega) | (exfalso; revert hc8; rw [Acc.eqb_refl]; simp; done) | (exfalso; revert hc8; rw [Acc.eqb_refl]; simp; omega) | (exfalso; revert hc8; rw [Quota.eqb_refl]; simp; done) | (exfalso; revert hc8; rw [Acc.eqb_refl, Quota.eqb_refl]; simp; done) | (exfalso; revert hc8; rw [Acc.eqb_refl, Quota.eqb_refl]; simp; omega) | (exfalso; have h9 := of_decide_eq_true hc8; omega)

theorem law_Debit (a : Acc) (A : Option Addr) (b o c : Nat) (id n : Int) (w : World) (hs : Sl w A b o (flat encR a.res)) (hm : a.res.length ≤ 9223372036854775807) :
    Calls Try.prog 4 #[a.val A c, .int .i64 id, .int .i64 n] w fun e w' => e = .returned (.bool true) ∧ HP w [] w' := by
  refine calls_entry [] _ Try.func4 rfl Try.ntmps4 (HP.refl w) (env3 rfl) ?_
  refine wc_seq ?_
  refine wc_region ?_
  refine wl_box (lk rfl) rfl fun b1 => ?_
  refine wl_v rfl (val_assign lkc) ?_
  refine wl_nil ?_
  refine px_then ?_
  refine wc_seq ?_
  refine wc_region ?_
  refine wl_v rfl (val_assign lkc) ?_
  refine wl_nil ?_
  refine px_then ?_
  refine wc_seq ?_
  refine wc_region ?_
  refine wl_v rfl (val_loadB (.head _) (lk rfl) ag_24) ?_
  refine wl_v rfl (val_move (lk rfl)) ?_
  refine wl_call gd_none rfl ci_13 (args2 (lk rfl) (lk rfl)) (fun hG w1 hw => szAcc_c a _ _ _ w1 (by omega) hm) ?_
  refine wl_v rfl (val_assign (lk rfl)) ?_
  refine wl_nil ?_
  refine px_then ?_
  refine wc_seq ?_
  refine wc_seq ?_
  refine wc_region ?_
  refine wl_v rfl (val_move (lk rfl)) ?_
  refine wl_v rfl (val_lss (lk rfl) lkc) ?_
  refine wl_nil ?_
  refine px_then ?_
  refine wc_cond (lk rfl) (fun hc0 => ?_) (fun hc0 => ?_)
  · refine wc_seq ?_
    refine wc_region ?_
    refine wl_v rfl (val_assign lkc) ?_
    refine wl_nil ?_
    refine px_then ?_
    refine wc_ret ?_
    refine px_then_ret ?_
    refine fin1 rfl (res_tmp rfl) (fun w1 hw => ?_)
    first | exact ⟨rfl, hw.drop rfl⟩ | (exfalso; revert hc0; simp; done) | (exfalso; revert hc0; simp; omega) | (exfalso; revert hc0; rw [Acc.eqb_refl]; simp; done) | (exfalso; revert hc0; rw [Acc.eqb_refl]; simp; omega) | (exfalso; revert hc0; rw [Quota.eqb_refl]; simp; done) | (exfalso; revert hc0; rw [Acc.eqb_refl, Quota.eqb_refl]; simp; done) | (exfalso; revert hc0; rw [Acc.eqb_refl, Quota.eqb_refl]; simp; omega) | (exfalso; have h9 := of_decide_eq_true hc0; omega)
  have hl : a.res.length ≤ 1048576 := by have h9 := of_decide_eq_false hc0; unfold szN at h9; split at h9 <;> omega
  have hdl := deb_len a id n
  refine wc_skip ?_
  refine px_then ?_
  refine wc_seq ?_
  refine wc_region ?_
  refine wl_v rfl (val_loadB (.head _) (lk rfl) ag_24) ?_
  refine wl_callx rfl ci_15 (args1 (lk rfl)) (fun w1 hw => toAcc_c a _ _ _ _ w1 (hs.hp hw rfl) hl) (fun _ => rfl) ?_
  rintro ⟨gb25, gc25, gs25⟩ ⟨hgl25, hgc25⟩
  refine wl_v rfl (val_move (lk rfl)) ?_
  refine wl_v rfl (val_move (lk rfl)) ?_
  refine wl_callx rfl ci_20 (args3 (lk rfl) (lk rfl) (lk rfl)) (fun w1 hw => sDebit_c a _ _ _ _ id n w1 (Sl.own hw (.head _)) hl (cap_le encR_len (by decide) hgl25)) (fun _ => rfl) ?_
  rintro ⟨gb28, gc28, gs28⟩ ⟨hgl28, hgc28⟩
  refine wl_v rfl (val_move (lk rfl)) ?_
  refine wl_v rfl (val_extract (lk rfl) rfl) ?_
  refine wl_v rfl (val_extract (lk rfl) rfl) ?_
  refine wl_alloc zc_28 rfl fun b2 => ?_
  refine wl_storeB 0 rfl (lk rfl) (lk rfl) ag_28 rfl rfl ?_
  refine wl_v rfl (val_assign (lk rfl)) ?_
  refine wl_nil ?_
  refine px_then ?_
  refine wc_seq ?_
  refine wc_region ?_
  refine wl_v rfl (val_loadB (.tail _ (.tail _ (.tail _ (.head _)))) (lk rfl) ag_24) ?_
  refine wl_callx rfl ci_15 (args1 (lk rfl)) (fun w1 hw => toAcc_c a _ _ _ _ w1 (hs.hp hw rfl) hl) (fun _ => rfl) ?_
  rintro ⟨gb32, gc32, gs32⟩ ⟨hgl32, hgc32⟩
  refine wl_alloc zc_28 rfl fun b3 => ?_
  refine wl_storeB 0 rfl (lk rfl) (lk rfl) ag_28 rfl rfl ?_
  refine wl_nil ?_
  refine px_then ?_
  refine wc_seq ?_
  refine wc_region ?_
  refine wl_v rfl (val_loadB (.head _) (lk rfl) ag_28) ?_
  refine wl_v rfl (val_move (lk rfl)) ?_
  refine wl_v rfl (val_move (lk rfl)) ?_
  refine wl_callx rfl ci_21 (args3 (lk rfl) (lk rfl) (lk rfl)) (fun w1 hw => Debit_c a _ _ _ _ id n w1 (Sl.own hw (.tail _ (.head _))) hl) (fun _ => rfl) ?_
  rintro ⟨gb37, gc37, gs37⟩ ⟨hgl37, hgc37⟩
  refine wl_v rfl (val_move (lk rfl)) ?_
  refine wl_v rfl (val_extract (lk rfl) rfl) ?_
  refine wl_v rfl (val_extract (lk rfl) rfl) ?_
  refine wl_alloc zc_28 rfl fun b4 => ?_
  refine wl_storeB 0 rfl (lk rfl) (lk rfl) ag_28 rfl rfl ?_
  refine wl_v rfl (val_assign (lk rfl)) ?_
  refine wl_nil ?_
  refine px_then ?_
  refine wc_seq ?_
  refine wc_seq ?_
  refine wc_region ?_
  refine wl_v rfl (val_loadB (.head _) (lk rfl) ag_28) ?_
  refine wl_v rfl (val_loadB (.tail _ (.tail _ (.tail _ (.tail _ (.head _))))) (lk rfl) ag_28) ?_
  refine wl_call gd_none rfl ci_17 (args2 (lk rfl) (lk rfl)) (fun hG w1 hw => eqAcc_c (a.deb id n) (a.deb id n) _ _ _ _ _ _ _ _ w1 (Sl.own hw (.tail _ (.head _))) (Sl.own hw (.tail _ (.tail _ (.tail _ (.tail _ (.tail _ (.head _))))))) (by omega)) ?_
  refine wl_v rfl (val_not (lk rfl)) ?_
  refine wl_v rfl (val_move (lk rfl)) ?_
  refine wl_val (gd_f rfl rfl rfl) rfl (val_move (lk rfl)) ?_
  refine wl_val (gd_f rfl rfl rfl) rfl (val_move (lk rfl)) ?_
  refine wl_val (gd_f rfl rfl rfl) rfl (val_neqB Try.underlying4 (lkg rfl) (lkg rfl)) ?_
  refine wl_v rfl (val_or (lk rfl) (lkg rfl)) ?_
  refine wl_nil ?_
  refine px_then ?_
  refine wc_cond (lk rfl) (fun hc1 => ?_) (fun hc1 => ?_)
  · refine wc_seq ?_
    refine wc_region ?_
    refine wl_v rfl (val_assign lkc) ?_
    refine wl_nil ?_
    refine px_then ?_
    refine wc_ret ?_
    refine px_then_ret ?_
    refine fin1 rfl (res_tmp rfl) (fun w1 hw => ?_)
    first | exact ⟨rfl, hw.drop rfl⟩ | (exfalso; revert hc1; simp; done) | (exfalso; revert hc1; simp; omega) | (exfalso; revert hc1; rw [Acc.eqb_refl]; simp; done) | (exfalso; revert hc1; rw [Acc.eqb_refl]; simp; omega) | (exfalso; revert hc1; rw [Quota.eqb_refl]; simp; done) | (exfalso; revert hc1; rw [Acc.eqb_refl, Quota.eqb_refl]; simp; done) | (exfalso; revert hc1; rw [Acc.eqb_refl, Quota.eqb_refl]; simp; omega) | (exfalso; have h9 := of_decide_eq_true hc1; omega)
  refine wc_skip ?_
  refine px_then ?_
  refine wc_seq ?_
  refine wc_seq ?_
  refine wc_region_a0 5 mo_ rfl ?_
  refine wa_take 0 rfl (by kernel_rfl) (by kernel_rfl) (by kernel_rfl) (by kernel_rfl) (fun _ h => h.dropN 0 rfl) gd_none rfl (val_loadB (.tail _ (.tail _ (.head _))) (lk rfl) ag_28) ?_
  refine wa_take 1 rfl (by kernel_rfl) (by kernel_rfl) (by kernel_rfl) (by kernel_rfl) (fun _ h => h.dropN 0 rfl) gd_none rfl (val_loadB (.tail _ (.tail _ (.tail _ (.tail _ (.tail _ (.tail _ (.tail _ (.head _)))))))) (lk rfl) ag_24) ?_
  refine wa_only 2 (by kernel_rfl) rfl ?_
  refine wl_callx rfl ci_15 (args1 (lk rfl)) (fun w1 hw => toAcc_c a _ _ _ _ w1 (hs.hp hw rfl) hl) (fun _ => rfl) ?_
  rintro ⟨gb51, gc51, gs51⟩ ⟨hgl51, hgc51⟩
  refine wl_nil (px_qn (fun _ h => h.dropN 1 rfl) ?_)
  refine wa_only 3 (by kernel_rfl) rfl ?_
  refine wl_call gd_none rfl ci_17 (args2 (lk rfl) (lk rfl)) (fun hG w1 hw => eqAcc_c (a) (a) _ _ _ _ _ _ _ _ w1 (Sl.own hw (.tail _ (.tail _ (.tail _ (.tail _ (.head _)))))) (Sl.own hw (.head _)) (by omega)) ?_
  refine wl_nil (px_qn (fun _ h => h.dropN 1 rfl) ?_)
  refine wa_take 4 rfl (by kernel_rfl) (by kernel_rfl) (by kernel_rfl) (by kernel_rfl) (fun _ h => h.dropN 1 rfl) gd_none rfl (val_not (lk rfl)) ?_
  refine wa_done (by kernel_rfl) ?_
  refine px_then ?_
  refine wc_cond (lk rfl) (fun hc2 => ?_) (fun hc2 => ?_)
  · refine wc_seq ?_
    refine wc_region ?_
    refine wl_v rfl (val_assign lkc) ?_
    refine wl_nil ?_
    refine px_then ?_
    refine wc_ret ?_
    refine px_then_ret ?_
    refine fin1 rfl (res_tmp rfl) (fun w1 hw => ?_)
    first | exact ⟨rfl, hw.drop rfl⟩ | (exfalso; revert hc2; simp; done) | (exfalso; revert hc2; simp; omega) | (exfalso; revert hc2; rw [Acc.eqb_refl]; simp; done) | (exfalso; revert hc2; rw [Acc.eqb_refl]; simp; omega) | (exfalso; revert hc2; rw [Quota.eqb_refl]; simp; done) | (exfalso; revert hc2; rw [Acc.eqb_refl, Quota.eqb_refl]; simp; done) | (exfalso; revert hc2; rw [Acc.eqb_refl, Quota.eqb_refl]; simp; omega) | (exfalso; have h9 := of_decide_eq_true hc2; omega)
  refine wc_skip ?_
  refine px_then ?_
  refine wc_seq ?_
  refine wc_region ?_
  refine wl_v rfl (val_assign lkc) ?_
  refine wl_nil ?_
  refine px_then ?_
  refine wc_seq ?_
  refine wc_region ?_
  refine wl_v rfl (val_loadB (.tail _ (.tail _ (.tail _ (.head _)))) (lk rfl) ag_28) ?_
  refine wl_v rfl (val_move (lk rfl)) ?_
  refine wl_callw 4 rfl ci_18 (args2 (lk rfl) (lk rfl)) rfl (fun w1 hw => markAcc_c (a) _ _ _ 1 _ w1 (fun _ => rfl) (hw.own _ (.tail _ (.tail _ (.tail _ (.tail _ (.head _)))))) (by omega) (by decide) (by rw [List.length_append, flat_len encR_len]; omega)) (fun _ => rfl) ?_
  rintro ⟨⟩ -
  refine wl_v rfl (val_assign (lk rfl)) ?_
  refine wl_nil ?_
  refine px_then ?_
  refine wc_seq ?_
  refine wc_seq ?_
  refine wc_region ?_
  refine wl_v rfl (val_move (lk rfl)) ?_
  refine wl_v rfl (val_lss (lk rfl) lkc) ?_
  refine wl_v rfl (val_move (lk rfl)) ?_
  refine wl_val (gd_f rfl rfl rfl) rfl (val_loadB (.tail _ (.head _)) (lk rfl) ag_28) ?_
  refine wl_val (gd_f rfl rfl rfl) rfl (val_loadB (.tail _ (.tail _ (.tail _ (.tail _ (.tail _ (.head _)))))) (lk rfl) ag_28) ?_
  refine wl_call (gd_f rfl rfl rfl) rfl ci_17 (args2 (lkg rfl) (lkg rfl)) (fun hG w1 hw => eqAcc_c (a.deb id n) (a.deb id n) _ _ _ _ _ _ _ _ w1 (Sl.own hw (.tail _ (.tail _ (.head _)))) (Sl.own hw (.tail _ (.tail _ (.tail _ (.tail _ (.tail _ (.tail _ (.head _)))))))) (by omega)) ?_
  refine wl_val (gd_f rfl rfl rfl) rfl (val_not (lkg rfl)) ?_
  refine wl_v rfl (val_or (lk rfl) (lkg rfl)) ?_
  refine wl_v rfl (val_move (lk rfl)) ?_
  refine wl_val (gd_f rfl rfl rfl) rfl (val_move (lk rfl)) ?_
  refine wl_val (gd_f rfl rfl rfl) rfl (val_move (lk rfl)) ?_
  refine wl_val (gd_f rfl rfl rfl) rfl (val_neqB Try.underlying4 (lkg rfl) (lkg rfl)) ?_
  refine wl_v rfl (val_or (lk rfl) (lkg rfl)) ?_
  refine wl_nil ?_
  refine px_then ?_
  refine wc_cond (lk rfl) (fun hc3 => ?_) (fun hc3 => ?_)
  · refine wc_seq ?_
    refine wc_region ?_
    refine wl_v rfl (val_assign lkc) ?_
    refine wl_nil ?_
    refine px_then ?_
    refine wc_ret ?_
    refine px_then_ret ?_
    refine fin1 rfl (res_tmp rfl) (fun w1 hw => ?_)
    first | exact ⟨rfl, hw.drop rfl⟩ | (exfalso; revert hc3; simp; done) | (exfalso; revert hc3; simp; omega) | (exfalso; revert hc3; rw [Acc.eqb_refl]; simp; done) | (exfalso; revert hc3; rw [Acc.eqb_refl]; simp; omega) | (exfalso; revert hc3; rw [Quota.eqb_refl]; simp; done) | (exfalso; revert hc3; rw [Acc.eqb_refl, Quota.eqb_refl]; simp; done) | (exfalso; revert hc3; rw [Acc.eqb_refl, Quota.eqb_refl]; simp; omega) | (exfalso; have h9 := of_decide_eq_true hc3; omega)
  refine wc_skip ?_
  refine px_then ?_
  refine wc_seq ?_
  refine wc_region ?_
  refine wl_v rfl (val_assign lkc) ?_
  refine wl_nil ?_
  refine px_then ?_
  refine wc_seq ?_
  refine wc_region ?_
  refine wl_v rfl (val_loadB (.tail _ (.head _)) (lk rfl) ag_28) ?_
  refine wl_v rfl (val_move (lk rfl)) ?_
  refine wl_callw 2 rfl ci_18 (args2 (lk rfl) (lk rfl)) rfl (fun w1 hw => markAcc_c (a.deb id n) _ _ _ 1 _ w1 (fun _ => rfl) (hw.own _ (.tail _ (.tail _ (.head _)))) (by omega) (by decide) (by rw [List.length_append, flat_len encR_len]; omega)) (fun _ => rfl) ?_
  rintro ⟨⟩ -
  refine wl_v rfl (val_assign (lk rfl)) ?_
  refine wl_nil ?_
  refine px_then ?_
  refine wc_seq ?_
  refine wc_region ?_
  refine wl_v rfl (val_assign lkc) ?_
  refine wl_nil ?_
  refine px_then ?_
  refine wc_seq ?_
  refine wc_region ?_
  refine wl_v rfl (val_loadB (.tail _ (.head _)) (lk rfl) ag_28) ?_
  refine wl_v rfl (val_move (lk rfl)) ?_
  refine wl_call gd_none rfl ci_19 (args2 (lk rfl) (lk rfl)) (fun hG w1 hw => heldAcc_c (a.deb id n) _ _ 0 _ 1 w1 (Sl.own hw (.tail _ (.tail _ (.head _)))) (by omega) (by decide)) ?_
  refine wl_v rfl (val_assign (lk rfl)) ?_
  refine wl_nil ?_
  refine px_then ?_
  refine wc_seq ?_
  refine wc_seq ?_
  refine wc_region ?_
  refine wl_v rfl (val_move (lk rfl)) ?_
  refine wl_v rfl (val_lss (lk rfl) lkc) ?_
  refine wl_nil ?_
  refine px_then ?_
  refine wc_cond (lk rfl) (fun hc4 => ?_) (fun hc4 => ?_)
  · refine wc_seq ?_
    refine wc_region ?_
    refine wl_v rfl (val_assign lkc) ?_
    refine wl_nil ?_
    refine px_then ?_
    refine wc_ret ?_
    refine px_then_ret ?_
    refine fin1 rfl (res_tmp rfl) (fun w1 hw => ?_)
    first | exact ⟨rfl, hw.drop rfl⟩ | (exfalso; revert hc4; simp; done) | (exfalso; revert hc4; simp; omega) | (exfalso; revert hc4; rw [Acc.eqb_refl]; simp; done) | (exfalso; revert hc4; rw [Acc.eqb_refl]; simp; omega) | (exfalso; revert hc4; rw [Quota.eqb_refl]; simp; done) | (exfalso; revert hc4; rw [Acc.eqb_refl, Quota.eqb_refl]; simp; done) | (exfalso; revert hc4; rw [Acc.eqb_refl, Quota.eqb_refl]; simp; omega) | (exfalso; have h9 := of_decide_eq_true hc4; omega)
  refine wc_skip ?_
  refine px_then ?_
  refine wc_seq ?_
  refine wc_seq ?_
  refine wc_region ?_
  refine wl_v rfl (val_move (lk rfl)) ?_
  refine wl_v rfl (val_move (lk rfl)) ?_
  refine wl_v rfl (val_neq (lk rfl) (lk rfl)) ?_
  refine wl_nil ?_
  refine px_then ?_
  refine wc_cond (lk rfl) (fun hc5 => ?_) (fun hc5 => ?_)
  · refine wc_seq ?_
    refine wc_region ?_
    refine wl_v rfl (val_assign lkc) ?_
    refine wl_nil ?_
    refine px_then ?_
    refine wc_ret ?_
    refine px_then_ret ?_
    refine fin1 rfl (res_tmp rfl) (fun w1 hw => ?_)
    first | exact ⟨rfl, hw.drop rfl⟩ | (exfalso; revert hc5; simp; done) | (exfalso; revert hc5; simp; omega) | (exfalso; revert hc5; rw [Acc.eqb_refl]; simp; done) | (exfalso; revert hc5; rw [Acc.eqb_refl]; simp; omega) | (exfalso; revert hc5; rw [Quota.eqb_refl]; simp; done) | (exfalso; revert hc5; rw [Acc.eqb_refl, Quota.eqb_refl]; simp; done) | (exfalso; revert hc5; rw [Acc.eqb_refl, Quota.eqb_refl]; simp; omega) | (exfalso; have h9 := of_decide_eq_true hc5; omega)
  refine wc_skip ?_
  refine px_then ?_
  refine wc_seq ?_
  refine wc_region ?_
  refine wl_v rfl (val_loadB (.tail _ (.tail _ (.tail _ (.tail _ (.tail _ (.tail _ (.tail _ (.tail _ (.head _))))))))) (lk rfl) ag_24) ?_
  refine wl_callx rfl ci_15 (args1 (lk rfl)) (fun w1 hw => toAcc_c a _ _ _ _ w1 (hs.hp hw rfl) hl) (fun _ => rfl) ?_
  rintro ⟨gb83, gc83, gs83⟩ ⟨hgl83, hgc83⟩
  refine wl_v rfl (val_move (lk rfl)) ?_
  refine wl_v rfl (val_move (lk rfl)) ?_
  refine wl_callx rfl ci_21 (args3 (lk rfl) (lk rfl) (lk rfl)) (fun w1 hw => Debit_c a _ _ _ _ id n w1 (Sl.own hw (.head _)) hl) (fun _ => rfl) ?_
  rintro ⟨gb86, gc86, gs86⟩ ⟨hgl86, hgc86⟩
  refine wl_v rfl (val_move (lk rfl)) ?_
  refine wl_v rfl (val_extract (lk rfl) rfl) ?_
  refine wl_v rfl (val_extract (lk rfl) rfl) ?_
  refine wl_alloc zc_28 rfl fun b5 => ?_
  refine wl_storeB 0 rfl (lk rfl) (lk rfl) ag_28 rfl rfl ?_
  refine wl_v rfl (val_assign (lk rfl)) ?_
  refine wl_nil ?_
  refine px_then ?_
  refine wc_seq ?_
  refine wc_seq ?_
  refine wc_region ?_
  refine wl_v rfl (val_loadB (.head _) (lk rfl) ag_28) ?_
  refine wl_v rfl (val_loadB (.tail _ (.tail _ (.tail _ (.tail _ (.tail _ (.tail _ (.tail _ (.tail _ (.head _))))))))) (lk rfl) ag_28) ?_
  refine wl_call gd_none rfl ci_17 (args2 (lk rfl) (lk rfl)) (fun hG w1 hw => eqAcc_c (a.deb id n) (a.deb id n) _ _ _ _ _ _ _ _ w1 (Sl.own hw (.tail _ (.head _))) (Sl.own hw (.tail _ (.tail _ (.tail _ (.tail _ (.tail _ (.tail _ (.tail _ (.tail _ (.tail _ (.head _))))))))))) (by omega)) ?_
  refine wl_v rfl (val_not (lk rfl)) ?_
  refine wl_v rfl (val_move (lk rfl)) ?_
  refine wl_val (gd_f rfl rfl rfl) rfl (val_move (lk rfl)) ?_
  refine wl_val (gd_f rfl rfl rfl) rfl (val_move (lk rfl)) ?_
  refine wl_val (gd_f rfl rfl rfl) rfl (val_neqB Try.underlying4 (lkg rfl) (lkg rfl)) ?_
  refine wl_v rfl (val_or (lk rfl) (lkg rfl)) ?_
  refine wl_nil ?_
  refine px_then ?_
  refine wc_cond (lk rfl) (fun hc6 => ?_) (fun hc6 => ?_)
  · refine wc_seq ?_
    refine wc_region ?_
    refine wl_v rfl (val_assign lkc) ?_
    refine wl_nil ?_
    refine px_then ?_
    refine wc_ret ?_
    refine px_then_ret ?_
    refine fin1 rfl (res_tmp rfl) (fun w1 hw => ?_)
    first | exact ⟨rfl, hw.drop rfl⟩ | (exfalso; revert hc6; simp; done) | (exfalso; revert hc6; simp; omega) | (exfalso; revert hc6; rw [Acc.eqb_refl]; simp; done) | (exfalso; revert hc6; rw [Acc.eqb_refl]; simp; omega) | (exfalso; revert hc6; rw [Quota.eqb_refl]; simp; done) | (exfalso; revert hc6; rw [Acc.eqb_refl, Quota.eqb_refl]; simp; done) | (exfalso; revert hc6; rw [Acc.eqb_refl, Quota.eqb_refl]; simp; omega) | (exfalso; have h9 := of_decide_eq_true hc6; omega)
  refine wc_skip ?_
  refine px_then ?_
  refine wc_seq ?_
  refine wc_region ?_
  refine wl_v rfl (val_assign lkc) ?_
  refine wl_nil ?_
  refine px_then ?_
  refine wc_seq ?_
  refine wc_region ?_
  refine wl_v rfl (val_loadB (.tail _ (.tail _ (.tail _ (.tail _ (.head _))))) (lk rfl) ag_28) ?_
  refine wl_v rfl (val_move (lk rfl)) ?_
  refine wl_call gd_none rfl ci_19 (args2 (lk rfl) (lk rfl)) (fun hG w1 hw => heldAcc_c (a.deb id n) _ _ 0 _ 1 w1 (Sl.own hw (.tail _ (.tail _ (.tail _ (.tail _ (.tail _ (.head _))))))) (by omega) (by decide)) ?_
  refine wl_v rfl (val_assign (lk rfl)) ?_
  refine wl_nil ?_
  refine px_then ?_
  refine wc_seq ?_
  refine wc_seq ?_
  refine wc_region ?_
  refine wl_v rfl (val_move (lk rfl)) ?_
  refine wl_v rfl (val_lss (lk rfl) lkc) ?_
  refine wl_nil ?_
  refine px_then ?_
  refine wc_cond (lk rfl) (fun hc7 => ?_) (fun hc7 => ?_)
  · refine wc_seq ?_
    refine wc_region ?_
    refine wl_v rfl (val_assign lkc) ?_
    refine wl_nil ?_
    refine px_then ?_
    refine wc_ret ?_
    refine px_then_ret ?_
    refine fin1 rfl (res_tmp rfl) (fun w1 hw => ?_)
    first | exact ⟨rfl, hw.drop rfl⟩ | (exfalso; revert hc7; simp; done) | (exfalso; revert hc7; simp; omega) | (exfalso; revert hc7; rw [Acc.eqb_refl]; simp; done) | (exfalso; revert hc7; rw [Acc.eqb_refl]; simp; omega) | (exfalso; revert hc7; rw [Quota.eqb_refl]; simp; done) | (exfalso; revert hc7; rw [Acc.eqb_refl, Quota.eqb_refl]; simp; done) | (exfalso; revert hc7; rw [Acc.eqb_refl, Quota.eqb_refl]; simp; omega) | (exfalso; have h9 := of_decide_eq_true hc7; omega)
  refine wc_skip ?_
  refine px_then ?_
  refine wc_seq ?_
  refine wc_seq ?_
  refine wc_region ?_
  refine wl_v rfl (val_move (lk rfl)) ?_
  refine wl_v rfl (val_move (lk rfl)) ?_
  refine wl_v rfl (val_neq (lk rfl) (lk rfl)) ?_
  refine wl_nil ?_
  refine px_then ?_
  refine wc_cond (lk rfl) (fun hc8 => ?_) (fun hc8 => ?_)
  · refine wc_seq ?_
    refine wc_region ?_
    refine wl_v rfl (val_assign lkc) ?_
    refine wl_nil ?_
    refine px_then ?_
    refine wc_ret ?_
    refine px_then_ret ?_
    refine fin1 rfl (res_tmp rfl) (fun w1 hw => ?_)
    first | exact ⟨rfl, hw.drop rfl⟩ | (exfalso; revert hc8; simp; done) | (exfalso; revert hc8; simp; omega) | (exfalso; revert hc8; rw [Acc.eqb_refl]; simp; done) | (exfalso; revert hc8; rw [Acc.eqb_refl]; simp; omega) | (exfalso; revert hc8; rw [Quota.eqb_refl]; simp; done) | (exfalso; revert hc8; rw [Acc.eqb_refl, Quota.eqb_refl]; simp; done) | (exfalso; revert hc8; rw [Acc.eqb_refl, Quota.eqb_refl]; simp; omega) | (exfalso; have h9 := of_decide_eq_true hc8; omega)
  refine wc_skip ?_
  refine px_then ?_
  refine wc_seq ?_
  refine wc_region ?_
  refine wl_v rfl (val_assign lkc) ?_
  refine wl_nil ?_
  refine px_then ?_
  refine wc_ret ?_
  refine fin1 rfl (res_tmp rfl) (fun w1 hw => ?_)
  first | exact ⟨rfl, hw.drop rfl⟩ | (exfalso; revert hc8; simp; done) | (exfalso; revert hc8; simp; omega) | (exfalso; revert hc8; rw [Acc.eqb_refl]; simp; done) | (exfalso; revert hc8; rw [Acc.eqb_refl]; simp; omega) | (exfalso; revert hc8; rw [Quota.eqb_refl]; simp; done) | (exfalso; revert hc8; rw [Acc.eqb_refl, Quota.eqb_refl]; simp; done) | (exfalso; revert hc8; rw [Acc.eqb_refl, Quota.eqb_refl]; simp; omega) | (exfalso; have h9 := of_decide_eq_true hc8; omega)

theorem law_Reserve (a : Acc) (A : Option Addr) (b o c : Nat) (id n : Int) (w : World) (hs : Sl w A b o (flat encR a.res)) (hm : a.res.length ≤ 9223372036854775807) :
    Calls Try.prog 5 #[a.val A c, .int .i64 id, .int .i64 n] w fun e w' => e = .returned (.bool true) ∧ HP w [] w' := by
  refine calls_entry [] _ Try.func5 rfl Try.ntmps5 (HP.refl w) (env3 rfl) ?_
  refine wc_seq ?_
  refine wc_region ?_
  refine wl_box (lk rfl) rfl fun b1 => ?_
  refine wl_v rfl (val_assign lkc) ?_
  refine wl_nil ?_
  refine px_then ?_
  refine wc_seq ?_
  refine wc_region ?_
  refine wl_v rfl (val_assign lkc) ?_
  refine wl_nil ?_
  refine px_then ?_
  refine wc_seq ?_
  refine wc_region ?_
  refine wl_v rfl (val_loadB (.head _) (lk rfl) ag_24) ?_
  refine wl_v rfl (val_move (lk rfl)) ?_
  refine wl_call gd_none rfl ci_13 (args2 (lk rfl) (lk rfl)) (fun hG w1 hw => szAcc_c a _ _ _ w1 (by omega) hm) ?_
  refine wl_v rfl (val_assign (lk rfl)) ?_
  refine wl_nil ?_
  refine px_then ?_
  refine wc_seq ?_
  refine wc_seq ?_
  refine wc_region ?_
  refine wl_v rfl (val_move (lk rfl)) ?_
  refine wl_v rfl (val_lss (lk rfl) lkc) ?_
  refine wl_nil ?_
  refine px_then ?_
  refine wc_cond (lk rfl) (fun hc0 => ?_) (fun hc0 => ?_)
  · refine wc_seq ?_
    refine wc_region ?_
    refine wl_v rfl (val_assign lkc) ?_
    refine wl_nil ?_
    refine px_then ?_
    refine wc_ret ?_
    refine px_then_ret ?_
    refine fin1 rfl (res_tmp rfl) (fun w1 hw => ?_)
    first | exact ⟨rfl, hw.drop rfl⟩ | (exfalso; revert hc0; simp; done) | (exfalso; revert hc0; simp; omega) | (exfalso; revert hc0; rw [Acc.eqb_refl]; simp; done) | (exfalso; revert hc0; rw [Acc.eqb_refl]; simp; omega) | (exfalso; revert hc0; rw [Quota.eqb_refl]; simp; done) | (exfalso; revert hc0; rw [Acc.eqb_refl, Quota.eqb_refl]; simp; done) | (exfalso; revert hc0; rw [Acc.eqb_refl, Quota.eqb_refl]; simp; omega) | (exfalso; have h9 := of_decide_eq_true hc0; omega)
  have hl : a.res.length ≤ 1048576 := by have h9 := of_decide_eq_false hc0; unfold szN at h9; split at h9 <;> omega
  have hdl := rsv_len a id n
  refine wc_skip ?_
  refine px_then ?_
  refine wc_seq ?_
  refine wc_region ?_
  refine wl_v rfl (val_loadB (.head _) (lk rfl) ag_24) ?_
  refine wl_callx rfl ci_15 (args1 (lk rfl)) (fun w1 hw => toAcc_c a _ _ _ _ w1 (hs.hp hw rfl) hl) (fun _ => rfl) ?_
  rintro ⟨gb25, gc25, gs25⟩ ⟨hgl25, hgc25⟩
  refine wl_v rfl (val_move (lk rfl)) ?_
  refine wl_v rfl (val_move (lk rfl)) ?_
  refine wl_callx rfl ci_22 (args3 (lk rfl) (lk rfl) (lk rfl)) (fun w1 hw => sReserve_c a _ _ _ _ id n w1 (Sl.own hw (.head _)) hl (cap_le encR_len (by decide) hgl25)) (fun _ => rfl) ?_
  rintro ⟨gb28, gc28, gs28⟩ ⟨hgl28, hgc28⟩
  refine wl_v rfl (val_move (lk rfl)) ?_
  refine wl_v rfl (val_extract (lk rfl) rfl) ?_
  refine wl_v rfl (val_extract (lk rfl) rfl) ?_
  refine wl_alloc zc_28 rfl fun b2 => ?_
  refine wl_storeB 0 rfl (lk rfl) (lk rfl) ag_28 rfl rfl ?_
  refine wl_v rfl (val_assign (lk rfl)) ?_
  refine wl_nil ?_
  refine px_then ?_
  refine wc_seq ?_
  refine wc_region ?_
  refine wl_v rfl (val_loadB (.tail _ (.tail _ (.tail _ (.head _)))) (lk rfl) ag_24) ?_
  refine wl_callx rfl ci_15 (args1 (lk rfl)) (fun w1 hw => toAcc_c a _ _ _ _ w1 (hs.hp hw rfl) hl) (fun _ => rfl) ?_
  rintro ⟨gb32, gc32, gs32⟩ ⟨hgl32, hgc32⟩
  refine wl_alloc zc_28 rfl fun b3 => ?_
  refine wl_storeB 0 rfl (lk rfl) (lk rfl) ag_28 rfl rfl ?_
  refine wl_nil ?_
  refine px_then ?_
  refine wc_seq ?_
  refine wc_region ?_
  refine wl_v rfl (val_loadB (.head _) (lk rfl) ag_28) ?_
  refine wl_v rfl (val_move (lk rfl)) ?_
  refine wl_v rfl (val_move (lk rfl)) ?_
  refine wl_callx rfl ci_23 (args3 (lk rfl) (lk rfl) (lk rfl)) (fun w1 hw => Reserve_c a _ _ _ _ id n w1 (Sl.own hw (.tail _ (.head _))) hl) (fun _ => rfl) ?_
  rintro ⟨gb37, gc37, gs37⟩ ⟨hgl37, hgc37⟩
  refine wl_v rfl (val_move (lk rfl)) ?_
  refine wl_v rfl (val_extract (lk rfl) rfl) ?_
  refine wl_v rfl (val_extract (lk rfl) rfl) ?_
  refine wl_alloc zc_28 rfl fun b4 => ?_
  refine wl_storeB 0 rfl (lk rfl) (lk rfl) ag_28 rfl rfl ?_
  refine wl_v rfl (val_assign (lk rfl)) ?_
  refine wl_nil ?_
  refine px_then ?_
  refine wc_seq ?_
  refine wc_seq ?_
  refine wc_region ?_
  refine wl_v rfl (val_loadB (.head _) (lk rfl) ag_28) ?_
  refine wl_v rfl (val_loadB (.tail _ (.tail _ (.tail _ (.tail _ (.head _))))) (lk rfl) ag_28) ?_
  refine wl_call gd_none rfl ci_17 (args2 (lk rfl) (lk rfl)) (fun hG w1 hw => eqAcc_c (a.rsv id n) (a.rsv id n) _ _ _ _ _ _ _ _ w1 (Sl.own hw (.tail _ (.head _))) (Sl.own hw (.tail _ (.tail _ (.tail _ (.tail _ (.tail _ (.head _))))))) (by omega)) ?_
  refine wl_v rfl (val_not (lk rfl)) ?_
  refine wl_v rfl (val_move (lk rfl)) ?_
  refine wl_val (gd_f rfl rfl rfl) rfl (val_move (lk rfl)) ?_
  refine wl_val (gd_f rfl rfl rfl) rfl (val_move (lk rfl)) ?_
  refine wl_val (gd_f rfl rfl rfl) rfl (val_neq (lkg rfl) (lkg rfl)) ?_
  refine wl_v rfl (val_or (lk rfl) (lkg rfl)) ?_
  refine wl_nil ?_
  refine px_then ?_
  refine wc_cond (lk rfl) (fun hc1 => ?_) (fun hc1 => ?_)
  · refine wc_seq ?_
    refine wc_region ?_
    refine wl_v rfl (val_assign lkc) ?_
    refine wl_nil ?_
    refine px_then ?_
    refine wc_ret ?_
    refine px_then_ret ?_
    refine fin1 rfl (res_tmp rfl) (fun w1 hw => ?_)
    first | exact ⟨rfl, hw.drop rfl⟩ | (exfalso; revert hc1; simp; done) | (exfalso; revert hc1; simp; omega) | (exfalso; revert hc1; rw [Acc.eqb_refl]; simp; done) | (exfalso; revert hc1; rw [Acc.eqb_refl]; simp; omega) | (exfalso; revert hc1; rw [Quota.eqb_refl]; simp; done) | (exfalso; revert hc1; rw [Acc.eqb_refl, Quota.eqb_refl]; simp; done) | (exfalso; revert hc1; rw [Acc.eqb_refl, Quota.eqb_refl]; simp; omega) | (exfalso; have h9 := of_decide_eq_true hc1; omega)
  refine wc_skip ?_
  refine px_then ?_
  refine wc_seq ?_
  refine wc_seq ?_
  refine wc_region_a0 5 mo_ rfl ?_
  refine wa_take 0 rfl (by kernel_rfl) (by kernel_rfl) (by kernel_rfl) (by kernel_rfl) (fun _ h => h.dropN 0 rfl) gd_none rfl (val_loadB (.tail _ (.tail _ (.head _))) (lk rfl) ag_28) ?_
  refine wa_take 1 rfl (by kernel_rfl) (by kernel_rfl) (by kernel_rfl) (by kernel_rfl) (fun _ h => h.dropN 0 rfl) gd_none rfl (val_loadB (.tail _ (.tail _ (.tail _ (.tail _ (.tail _ (.tail _ (.tail _ (.head _)))))))) (lk rfl) ag_24) ?_
  refine wa_only 2 (by kernel_rfl) rfl ?_
  refine wl_callx rfl ci_15 (args1 (lk rfl)) (fun w1 hw => toAcc_c a _ _ _ _ w1 (hs.hp hw rfl) hl) (fun _ => rfl) ?_
  rintro ⟨gb51, gc51, gs51⟩ ⟨hgl51, hgc51⟩
  refine wl_nil (px_qn (fun _ h => h.dropN 1 rfl) ?_)
  refine wa_only 3 (by kernel_rfl) rfl ?_
  refine wl_call gd_none rfl ci_17 (args2 (lk rfl) (lk rfl)) (fun hG w1 hw => eqAcc_c (a) (a) _ _ _ _ _ _ _ _ w1 (Sl.own hw (.tail _ (.tail _ (.tail _ (.tail _ (.head _)))))) (Sl.own hw (.head _)) (by omega)) ?_
  refine wl_nil (px_qn (fun _ h => h.dropN 1 rfl) ?_)
  refine wa_take 4 rfl (by kernel_rfl) (by kernel_rfl) (by kernel_rfl) (by kernel_rfl) (fun _ h => h.dropN 1 rfl) gd_none rfl (val_not (lk rfl)) ?_
  refine wa_done (by kernel_rfl) ?_
  refine px_then ?_
  refine wc_cond (lk rfl) (fun hc2 => ?_) (fun hc2 => ?_)
  · refine wc_seq ?_
    refine wc_region ?_
    refine wl_v rfl (val_assign lkc) ?_
    refine wl_nil ?_
    refine px_then ?_
    refine wc_ret ?_
    refine px_then_ret ?_
    refine fin1 rfl (res_tmp rfl) (fun w1 hw => ?_)
    first | exact ⟨rfl, hw.drop rfl⟩ | (exfalso; revert hc2; simp; done) | (exfalso; revert hc2; simp; omega) | (exfalso; revert hc2; rw [Acc.eqb_refl]; simp; done) | (exfalso; revert hc2; rw [Acc.eqb_refl]; simp; omega) | (exfalso; revert hc2; rw [Quota.eqb_refl]; simp; done) | (exfalso; revert hc2; rw [Acc.eqb_refl, Quota.eqb_refl]; simp; done) | (exfalso; revert hc2; rw [Acc.eqb_refl, Quota.eqb_refl]; simp; omega) | (exfalso; have h9 := of_decide_eq_true hc2; omega)
  refine wc_skip ?_
  refine px_then ?_
  refine wc_seq ?_
  refine wc_region ?_
  refine wl_v rfl (val_assign lkc) ?_
  refine wl_nil ?_
  refine px_then ?_
  refine wc_seq ?_
  refine wc_region ?_
  refine wl_v rfl (val_loadB (.tail _ (.tail _ (.tail _ (.head _)))) (lk rfl) ag_28) ?_
  refine wl_v rfl (val_move (lk rfl)) ?_
  refine wl_callw 4 rfl ci_18 (args2 (lk rfl) (lk rfl)) rfl (fun w1 hw => markAcc_c (a) _ _ _ 1 _ w1 (fun _ => rfl) (hw.own _ (.tail _ (.tail _ (.tail _ (.tail _ (.head _)))))) (by omega) (by decide) (by rw [List.length_append, flat_len encR_len]; omega)) (fun _ => rfl) ?_
  rintro ⟨⟩ -
  refine wl_v rfl (val_assign (lk rfl)) ?_
  refine wl_nil ?_
  refine px_then ?_
  refine wc_seq ?_
  refine wc_seq ?_
  refine wc_region ?_
  refine wl_v rfl (val_move (lk rfl)) ?_
  refine wl_v rfl (val_lss (lk rfl) lkc) ?_
  refine wl_v rfl (val_move (lk rfl)) ?_
  refine wl_val (gd_f rfl rfl rfl) rfl (val_loadB (.tail _ (.head _)) (lk rfl) ag_28) ?_
  refine wl_val (gd_f rfl rfl rfl) rfl (val_loadB (.tail _ (.tail _ (.tail _ (.tail _ (.tail _ (.head _)))))) (lk rfl) ag_28) ?_
  refine wl_call (gd_f rfl rfl rfl) rfl ci_17 (args2 (lkg rfl) (lkg rfl)) (fun hG w1 hw => eqAcc_c (a.rsv id n) (a.rsv id n) _ _ _ _ _ _ _ _ w1 (Sl.own hw (.tail _ (.tail _ (.head _)))) (Sl.own hw (.tail _ (.tail _ (.tail _ (.tail _ (.tail _ (.tail _ (.head _)))))))) (by omega)) ?_
  refine wl_val (gd_f rfl rfl rfl) rfl (val_not (lkg rfl)) ?_
  refine wl_v rfl (val_or (lk rfl) (lkg rfl)) ?_
  refine wl_v rfl (val_move (lk rfl)) ?_
  refine wl_val (gd_f rfl rfl rfl) rfl (val_move (lk rfl)) ?_
  refine wl_val (gd_f rfl rfl rfl) rfl (val_move (lk rfl)) ?_
  refine wl_val (gd_f rfl rfl rfl) rfl (val_neq (lkg rfl) (lkg rfl)) ?_
  refine wl_v rfl (val_or (lk rfl) (lkg rfl)) ?_
  refine wl_nil ?_
  refine px_then ?_
  refine wc_cond (lk rfl) (fun hc3 => ?_) (fun hc3 => ?_)
  · refine wc_seq ?_
    refine wc_region ?_
    refine wl_v rfl (val_assign lkc) ?_
    refine wl_nil ?_
    refine px_then ?_
    refine wc_ret ?_
    refine px_then_ret ?_
    refine fin1 rfl (res_tmp rfl) (fun w1 hw => ?_)
    first | exact ⟨rfl, hw.drop rfl⟩ | (exfalso; revert hc3; simp; done) | (exfalso; revert hc3; simp; omega) | (exfalso; revert hc3; rw [Acc.eqb_refl]; simp; done) | (exfalso; revert hc3; rw [Acc.eqb_refl]; simp; omega) | (exfalso; revert hc3; rw [Quota.eqb_refl]; simp; done) | (exfalso; revert hc3; rw [Acc.eqb_refl, Quota.eqb_refl]; simp; done) | (exfalso; revert hc3; rw [Acc.eqb_refl, Quota.eqb_refl]; simp; omega) | (exfalso; have h9 := of_decide_eq_true hc3; omega)
  refine wc_skip ?_
  refine px_then ?_
  refine wc_seq ?_
  refine wc_region ?_
  refine wl_v rfl (val_assign lkc) ?_
  refine wl_nil ?_
  refine px_then ?_
  refine wc_seq ?_
  refine wc_region ?_
  refine wl_v rfl (val_loadB (.tail _ (.head _)) (lk rfl) ag_28) ?_
  refine wl_v rfl (val_move (lk rfl)) ?_
  refine wl_callw 2 rfl ci_18 (args2 (lk rfl) (lk rfl)) rfl (fun w1 hw => markAcc_c (a.rsv id n) _ _ _ 1 _ w1 (fun _ => rfl) (hw.own _ (.tail _ (.tail _ (.head _)))) (by omega) (by decide) (by rw [List.length_append, flat_len encR_len]; omega)) (fun _ => rfl) ?_
  rintro ⟨⟩ -
  refine wl_v rfl (val_assign (lk rfl)) ?_
  refine wl_nil ?_
  refine px_then ?_
  refine wc_seq ?_
  refine wc_region ?_
  refine wl_v rfl (val_assign lkc) ?_
  refine wl_nil ?_
  refine px_then ?_
  refine wc_seq ?_
  refine wc_region ?_
  refine wl_v rfl (val_loadB (.tail _ (.head _)) (lk rfl) ag_28) ?_
  refine wl_v rfl (val_move (lk rfl)) ?_
  refine wl_call gd_none rfl ci_19 (args2 (lk rfl) (lk rfl)) (fun hG w1 hw => heldAcc_c (a.rsv id n) _ _ 0 _ 1 w1 (Sl.own hw (.tail _ (.tail _ (.head _)))) (by omega) (by decide)) ?_
  refine wl_v rfl (val_assign (lk rfl)) ?_
  refine wl_nil ?_
  refine px_then ?_
  refine wc_seq ?_
  refine wc_seq ?_
  refine wc_region ?_
  refine wl_v rfl (val_move (lk rfl)) ?_
  refine wl_v rfl (val_lss (lk rfl) lkc) ?_
  refine wl_nil ?_
  refine px_then ?_
  refine wc_cond (lk rfl) (fun hc4 => ?_) (fun hc4 => ?_)
  · refine wc_seq ?_
    refine wc_region ?_
    refine wl_v rfl (val_assign lkc) ?_
    refine wl_nil ?_
    refine px_then ?_
    refine wc_ret ?_
    refine px_then_ret ?_
    refine fin1 rfl (res_tmp rfl) (fun w1 hw => ?_)
    first | exact ⟨rfl, hw.drop rfl⟩ | (exfalso; revert hc4; simp; done) | (exfalso; revert hc4; simp; omega) | (exfalso; revert hc4; rw [Acc.eqb_refl]; simp; done) | (exfalso; revert hc4; rw [Acc.eqb_refl]; simp; omega) | (exfalso; revert hc4; rw [Quota.eqb_refl]; simp; done) | (exfalso; revert hc4; rw [Acc.eqb_refl, Quota.eqb_refl]; simp; done) | (exfalso; revert hc4; rw [Acc.eqb_refl, Quota.eqb_refl]; simp; omega) | (exfalso; have h9 := of_decide_eq_true hc4; omega)
  refine wc_skip ?_
  refine px_then ?_
  refine wc_seq ?_
  refine wc_seq ?_
  refine wc_region ?_
  refine wl_v rfl (val_move (lk rfl)) ?_
  refine wl_v rfl (val_move (lk rfl)) ?_
  refine wl_v rfl (val_neq (lk rfl) (lk rfl)) ?_
  refine wl_nil ?_
  refine px_then ?_
  refine wc_cond (lk rfl) (fun hc5 => ?_) (fun hc5 => ?_)
  · refine wc_seq ?_
    refine wc_region ?_
    refine wl_v rfl (val_assign lkc) ?_
    refine wl_nil ?_
    refine px_then ?_
    refine wc_ret ?_
    refine px_then_ret ?_
    refine fin1 rfl (res_tmp rfl) (fun w1 hw => ?_)
    first | exact ⟨rfl, hw.drop rfl⟩ | (exfalso; revert hc5; simp; done) | (exfalso; revert hc5; simp; omega) | (exfalso; revert hc5; rw [Acc.eqb_refl]; simp; done) | (exfalso; revert hc5; rw [Acc.eqb_refl]; simp; omega) | (exfalso; revert hc5; rw [Quota.eqb_refl]; simp; done) | (exfalso; revert hc5; rw [Acc.eqb_refl, Quota.eqb_refl]; simp; done) | (exfalso; revert hc5; rw [Acc.eqb_refl, Quota.eqb_refl]; simp; omega) | (exfalso; have h9 := of_decide_eq_true hc5; omega)
  refine wc_skip ?_
  refine px_then ?_
  refine wc_seq ?_
  refine wc_region ?_
  refine wl_v rfl (val_loadB (.tail _ (.tail _ (.tail _ (.tail _ (.tail _ (.tail _ (.tail _ (.tail _ (.head _))))))))) (lk rfl) ag_24) ?_
  refine wl_callx rfl ci_15 (args1 (lk rfl)) (fun w1 hw => toAcc_c a _ _ _ _ w1 (hs.hp hw rfl) hl) (fun _ => rfl) ?_
  rintro ⟨gb83, gc83, gs83⟩ ⟨hgl83, hgc83⟩
  refine wl_v rfl (val_move (lk rfl)) ?_
  refine wl_v rfl (val_move (lk rfl)) ?_
  refine wl_callx rfl ci_23 (args3 (lk rfl) (lk rfl) (lk rfl)) (fun w1 hw => Reserve_c a _ _ _ _ id n w1 (Sl.own hw (.head _)) hl) (fun _ => rfl) ?_
  rintro ⟨gb86, gc86, gs86⟩ ⟨hgl86, hgc86⟩
  refine wl_v rfl (val_move (lk rfl)) ?_
  refine wl_v rfl (val_extract (lk rfl) rfl) ?_
  refine wl_v rfl (val_extract (lk rfl) rfl) ?_
  refine wl_alloc zc_28 rfl fun b5 => ?_
  refine wl_storeB 0 rfl (lk rfl) (lk rfl) ag_28 rfl rfl ?_
  refine wl_v rfl (val_assign (lk rfl)) ?_
  refine wl_nil ?_
  refine px_then ?_
  refine wc_seq ?_
  refine wc_seq ?_
  refine wc_region ?_
  refine wl_v rfl (val_loadB (.head _) (lk rfl) ag_28) ?_
  refine wl_v rfl (val_loadB (.tail _ (.tail _ (.tail _ (.tail _ (.tail _ (.tail _ (.tail _ (.tail _ (.head _))))))))) (lk rfl) ag_28) ?_
  refine wl_call gd_none rfl ci_17 (args2 (lk rfl) (lk rfl)) (fun hG w1 hw => eqAcc_c (a.rsv id n) (a.rsv id n) _ _ _ _ _ _ _ _ w1 (Sl.own hw (.tail _ (.head _))) (Sl.own hw (.tail _ (.tail _ (.tail _ (.tail _ (.tail _ (.tail _ (.tail _ (.tail _ (.tail _ (.head _))))))))))) (by omega)) ?_
  refine wl_v rfl (val_not (lk rfl)) ?_
  refine wl_v rfl (val_move (lk rfl)) ?_
  refine wl_val (gd_f rfl rfl rfl) rfl (val_move (lk rfl)) ?_
  refine wl_val (gd_f rfl rfl rfl) rfl (val_move (lk rfl)) ?_
  refine wl_val (gd_f rfl rfl rfl) rfl (val_neq (lkg rfl) (lkg rfl)) ?_
  refine wl_v rfl (val_or (lk rfl) (lkg rfl)) ?_
  refine wl_nil ?_
  refine px_then ?_
  refine wc_cond (lk rfl) (fun hc6 => ?_) (fun hc6 => ?_)
  · refine wc_seq ?_
    refine wc_region ?_
    refine wl_v rfl (val_assign lkc) ?_
    refine wl_nil ?_
    refine px_then ?_
    refine wc_ret ?_
    refine px_then_ret ?_
    refine fin1 rfl (res_tmp rfl) (fun w1 hw => ?_)
    first | exact ⟨rfl, hw.drop rfl⟩ | (exfalso; revert hc6; simp; done) | (exfalso; revert hc6; simp; omega) | (exfalso; revert hc6; rw [Acc.eqb_refl]; simp; done) | (exfalso; revert hc6; rw [Acc.eqb_refl]; simp; omega) | (exfalso; revert hc6; rw [Quota.eqb_refl]; simp; done) | (exfalso; revert hc6; rw [Acc.eqb_refl, Quota.eqb_refl]; simp; done) | (exfalso; revert hc6; rw [Acc.eqb_refl, Quota.eqb_refl]; simp; omega) | (exfalso; have h9 := of_decide_eq_true hc6; omega)
  refine wc_skip ?_
  refine px_then ?_
  refine wc_seq ?_
  refine wc_region ?_
  refine wl_v rfl (val_assign lkc) ?_
  refine wl_nil ?_
  refine px_then ?_
  refine wc_seq ?_
  refine wc_region ?_
  refine wl_v rfl (val_loadB (.tail _ (.tail _ (.tail _ (.tail _ (.head _))))) (lk rfl) ag_28) ?_
  refine wl_v rfl (val_move (lk rfl)) ?_
  refine wl_call gd_none rfl ci_19 (args2 (lk rfl) (lk rfl)) (fun hG w1 hw => heldAcc_c (a.rsv id n) _ _ 0 _ 1 w1 (Sl.own hw (.tail _ (.tail _ (.tail _ (.tail _ (.tail _ (.head _))))))) (by omega) (by decide)) ?_
  refine wl_v rfl (val_assign (lk rfl)) ?_
  refine wl_nil ?_
  refine px_then ?_
  refine wc_seq ?_
  refine wc_seq ?_
  refine wc_region ?_
  refine wl_v rfl (val_move (lk rfl)) ?_
  refine wl_v rfl (val_lss (lk rfl) lkc) ?_
  refine wl_nil ?_
  refine px_then ?_
  refine wc_cond (lk rfl) (fun hc7 => ?_) (fun hc7 => ?_)
  · refine wc_seq ?_
    refine wc_region ?_
    refine wl_v rfl (val_assign lkc) ?_
    refine wl_nil ?_
    refine px_then ?_
    refine wc_ret ?_
    refine px_then_ret ?_
    refine fin1 rfl (res_tmp rfl) (fun w1 hw => ?_)
    first | exact ⟨rfl, hw.drop rfl⟩ | (exfalso; revert hc7; simp; done) | (exfalso; revert hc7; simp; omega) | (exfalso; revert hc7; rw [Acc.eqb_refl]; simp; done) | (exfalso; revert hc7; rw [Acc.eqb_refl]; simp; omega) | (exfalso; revert hc7; rw [Quota.eqb_refl]; simp; done) | (exfalso; revert hc7; rw [Acc.eqb_refl, Quota.eqb_refl]; simp; done) | (exfalso; revert hc7; rw [Acc.eqb_refl, Quota.eqb_refl]; simp; omega) | (exfalso; have h9 := of_decide_eq_true hc7; omega)
  refine wc_skip ?_
  refine px_then ?_
  refine wc_seq ?_
  refine wc_seq ?_
  refine wc_region ?_
  refine wl_v rfl (val_move (lk rfl)) ?_
  refine wl_v rfl (val_move (lk rfl)) ?_
  refine wl_v rfl (val_neq (lk rfl) (lk rfl)) ?_
  refine wl_nil ?_
  refine px_then ?_
  refine wc_cond (lk rfl) (fun hc8 => ?_) (fun hc8 => ?_)
  · refine wc_seq ?_
    refine wc_region ?_
    refine wl_v rfl (val_assign lkc) ?_
    refine wl_nil ?_
    refine px_then ?_
    refine wc_ret ?_
    refine px_then_ret ?_
    refine fin1 rfl (res_tmp rfl) (fun w1 hw => ?_)
    first | exact ⟨rfl, hw.drop rfl⟩ | (exfalso; revert hc8; simp; done) | (exfalso; revert hc8; simp; omega) | (exfalso; revert hc8; rw [Acc.eqb_refl]; simp; done) | (exfalso; revert hc8; rw [Acc.eqb_refl]; simp; omega) | (exfalso; revert hc8; rw [Quota.eqb_refl]; simp; done) | (exfalso; revert hc8; rw [Acc.eqb_refl, Quota.eqb_refl]; simp; done) | (exfalso; revert hc8; rw [Acc.eqb_refl, Quota.eqb_refl]; simp; omega) | (exfalso; have h9 := of_decide_eq_true hc8; omega)
  refine wc_skip ?_
  refine px_then ?_
  refine wc_seq ?_
  refine wc_region ?_
  refine wl_v rfl (val_assign lkc) ?_
  refine wl_nil ?_
  refine px_then ?_
  refine wc_ret ?_
  refine fin1 rfl (res_tmp rfl) (fun w1 hw => ?_)
  first | exact ⟨rfl, hw.drop rfl⟩ | (exfalso; revert hc8; simp; done) | (exfalso; revert hc8; simp; omega) | (exfalso; revert hc8; rw [Acc.eqb_refl]; simp; done) | (exfalso; revert hc8; rw [Acc.eqb_refl]; simp; omega) | (exfalso; revert hc8; rw [Quota.eqb_refl]; simp; done) | (exfalso; revert hc8; rw [Acc.eqb_refl, Quota.eqb_refl]; simp; done) | (exfalso; revert hc8; rw [Acc.eqb_refl, Quota.eqb_refl]; simp; omega) | (exfalso; have h9 := of_decide_eq_true hc8; omega)

theorem law_ReportUsage (a : Acc) (A : Option Addr) (b o c : Nat) (q : Quota) (w : World) (hs : Sl w A b o (flat encR a.res)) (hm : a.res.length ≤ 9223372036854775807) :
    Calls Try.prog 6 #[a.val A c, q.val] w fun e w' => e = .returned (.bool true) ∧ HP w [] w' := by
  refine calls_entry [] _ Try.func6 rfl Try.ntmps6 (HP.refl w) (env2 rfl) ?_
  refine wc_seq ?_
  refine wc_region ?_
  refine wl_box (lk rfl) rfl fun b1 => ?_
  refine wl_box (lk rfl) rfl fun b2 => ?_
  refine wl_v rfl (val_assign lkc) ?_
  refine wl_nil ?_
  refine px_then ?_
  refine wc_seq ?_
  refine wc_region ?_
  refine wl_v rfl (val_assign lkc) ?_
  refine wl_nil ?_
  refine px_then ?_
  refine wc_seq ?_
  refine wc_region ?_
  refine wl_v rfl (val_loadB (.tail _ (.head _)) (lk rfl) ag_24) ?_
  refine wl_v rfl (val_move (lk rfl)) ?_
  refine wl_call gd_none rfl ci_13 (args2 (lk rfl) (lk rfl)) (fun hG w1 hw => szAcc_c a _ _ _ w1 (by omega) hm) ?_
  refine wl_v rfl (val_assign (lk rfl)) ?_
  refine wl_nil ?_
  refine px_then ?_
  refine wc_seq ?_
  refine wc_seq ?_
  refine wc_region ?_
  refine wl_v rfl (val_move (lk rfl)) ?_
  refine wl_v rfl (val_lss (lk rfl) lkc) ?_
  refine wl_nil ?_
  refine px_then ?_
  refine wc_cond (lk rfl) (fun hc0 => ?_) (fun hc0 => ?_)
  · refine wc_seq ?_
    refine wc_region ?_
    refine wl_v rfl (val_assign lkc) ?_
    refine wl_nil ?_
    refine px_then ?_
    refine wc_ret ?_
    refine px_then_ret ?_
    refine fin1 rfl (res_tmp rfl) (fun w1 hw => ?_)
    first | exact ⟨rfl, hw.drop rfl⟩ | (exfalso; revert hc0; simp; done) | (exfalso; revert hc0; simp; omega) | (exfalso; revert hc0; rw [Acc.eqb_refl]; simp; done) | (exfalso; revert hc0; rw [Acc.eqb_refl]; simp; omega) | (exfalso; revert hc0; rw [Quota.eqb_refl]; simp; done) | (exfalso; revert hc0; rw [Acc.eqb_refl, Quota.eqb_refl]; simp; done) | (exfalso; revert hc0; rw [Acc.eqb_refl, Quota.eqb_refl]; simp; omega) | (exfalso; have h9 := of_decide_eq_true hc0; omega)
  have hl : a.res.length ≤ 1048576 := by have h9 := of_decide_eq_false hc0; unfold szN at h9; split at h9 <;> omega
  have hdl := rep_len a q
  refine wc_skip ?_
  refine px_then ?_
  refine wc_seq ?_
  refine wc_region_a0 12 mo_ rfl ?_
  refine wa_take 0 rfl (by kernel_rfl) (by kernel_rfl) (by kernel_rfl) (by kernel_rfl) (fun _ h => h.dropN 0 rfl) gd_none rfl (val_loadB (.tail _ (.head _)) (lk rfl) ag_24) ?_
  refine wa_take 2 rfl (by kernel_rfl) (by kernel_rfl) (by kernel_rfl) (by kernel_rfl) (fun _ h => h.dropN 0 rfl) gd_none rfl (val_loadB (.head _) (lk rfl) ag_40) ?_
  refine wa_chn2 [(false, 1, 23), (false, 3, 25), (false, 4, 26), (true, 5, 21), (true, 6, 27), (true, 7, 28)] 8 6 9 7 8 [1, 3, 4, 5, 6, 7, 8, 9] (fun _ h => h.dropN 0 rfl) (by kernel_rfl) (by kernel_rfl) rfl rfl rfl rfl rfl (fun _ _ => ops_alloc rfl zc_28 rfl) (fun _ _ => ops_alloc rfl zc_41 rfl) ?_
  refine ch_o (ops_callx rfl rfl ci_15 (args1 (lk rfl)) (fun w1 hw => toAcc_c a _ _ _ _ w1 (hs.hp hw rfl) hl) (fun _ => rfl)) ?_
  rintro _ _ ⟨⟨gb23, gc23, gs23⟩, ⟨hgl23, hgc23⟩, rfl, rfl⟩
  refine ch_o (ops_call rfl rfl ci_25 (args1 (lk rfl)) (fun w1 hw => toQuota_c q w1)) ?_
  rintro _ _ ⟨rfl, rfl⟩
  refine ch_o (ops_callx rfl rfl ci_24 (args2 (lk rfl) (lk rfl)) (fun w1 hw => sReport_c a _ _ _ _ q w1 (Sl.own hw (.head _)) hl (cap_le encR_len (by decide) hgl23)) (fun _ => rfl)) ?_
  rintro _ _ ⟨⟨gb26, gc26, gs26⟩, ⟨hgl26, hgc26⟩, rfl, rfl⟩
  refine ch_q rfl gd_none rfl (val_move (lk rfl)) ?_
  refine ch_q rfl gd_none rfl (val_extract (lk rfl) rfl) ?_
  refine ch_q rfl gd_none rfl (val_extract (lk rfl) rfl) ?_
  refine ch_nil ?_
  rintro _ _ ⟨b3, rfl, rfl⟩
  rintro _ _ ⟨b4, rfl, rfl⟩
  refine wa_only 10 (by kernel_rfl) rfl ?_
  refine wl_storeB 1 rfl (lk rfl) (lk rfl) ag_28 rfl rfl ?_
  refine wl_nil (px_qn (fun _ h => h.dropN 4 rfl) ?_)
  refine wa_only 11 (by kernel_rfl) rfl ?_
  refine wl_storeB 0 rfl (lk rfl) (lk rfl) ag_41 rfl rfl ?_
  refine wl_nil (px_qn (fun _ h => h.dropN 4 rfl) ?_)
  refine wa_done (by kernel_rfl) ?_
  refine px_then ?_
  refine wc_seq ?_
  refine wc_region ?_
  refine wl_v rfl (val_loadB (.tail _ (.tail _ (.tail _ (.tail _ (.tail _ (.head _)))))) (lk rfl) ag_24) ?_
  refine wl_callx rfl ci_15 (args1 (lk rfl)) (fun w1 hw => toAcc_c a _ _ _ _ w1 (hs.hp hw rfl) hl) (fun _ => rfl) ?_
  rintro ⟨gb30, gc30, gs30⟩ ⟨hgl30, hgc30⟩
  refine wl_alloc zc_28 rfl fun b5 => ?_
  refine wl_storeB 0 rfl (lk rfl) (lk rfl) ag_28 rfl rfl ?_
  refine wl_nil ?_
  refine px_then ?_
  refine wc_seq ?_
  refine wc_region_a0 11 mo_ rfl ?_
  refine wa_take 0 rfl (by kernel_rfl) (by kernel_rfl) (by kernel_rfl) (by kernel_rfl) (fun _ h => h.dropN 0 rfl) gd_none rfl (val_loadB (.head _) (lk rfl) ag_28) ?_
  refine wa_take 1 rfl (by kernel_rfl) (by kernel_rfl) (by kernel_rfl) (by kernel_rfl) (fun _ h => h.dropN 0 rfl) gd_none rfl (val_loadB (.tail _ (.tail _ (.tail _ (.tail _ (.tail _ (.tail _ (.head _))))))) (lk rfl) ag_40) ?_
  refine wa_chn2 [(false, 2, 34), (false, 3, 35), (true, 4, 31), (true, 5, 36), (true, 6, 37)] 7 9 8 10 7 [2, 3, 4, 5, 6, 7, 8] (fun _ h => h.dropN 0 rfl) (by kernel_rfl) (by kernel_rfl) rfl rfl rfl rfl rfl (fun _ _ => ops_alloc rfl zc_28 rfl) (fun _ _ => ops_alloc rfl zc_41 rfl) ?_
  refine ch_o (ops_call rfl rfl ci_25 (args1 (lk rfl)) (fun w1 hw => toQuota_c q w1)) ?_
  rintro _ _ ⟨rfl, rfl⟩
  refine ch_o (ops_callx rfl rfl ci_26 (args2 (lk rfl) (lk rfl)) (fun w1 hw => Report_c a _ _ _ _ q w1 (Sl.own hw (.tail _ (.head _))) hl) (fun _ => rfl)) ?_
  rintro _ _ ⟨⟨gb35, gc35, gs35⟩, ⟨hgl35, hgc35⟩, rfl, rfl⟩
  refine ch_q rfl gd_none rfl (val_move (lk rfl)) ?_
  refine ch_q rfl gd_none rfl (val_extract (lk rfl) rfl) ?_
  refine ch_q rfl gd_none rfl (val_extract (lk rfl) rfl) ?_
  refine ch_nil ?_
  rintro _ _ ⟨b6, rfl, rfl⟩
  rintro _ _ ⟨b7, rfl, rfl⟩
  refine wa_only 9 (by kernel_rfl) rfl ?_
  refine wl_storeB 1 rfl (lk rfl) (lk rfl) ag_28 rfl rfl ?_
  refine wl_nil (px_qn (fun _ h => h.dropN 3 rfl) ?_)
  refine wa_only 10 (by kernel_rfl) rfl ?_
  refine wl_storeB 0 rfl (lk rfl) (lk rfl) ag_41 rfl rfl ?_
  refine wl_nil (px_qn (fun _ h => h.dropN 3 rfl) ?_)
  refine wa_done (by kernel_rfl) ?_
  refine px_then ?_
  refine wc_seq ?_
  refine wc_seq ?_
  refine wc_region ?_
  refine wl_v rfl (val_loadB (.tail _ (.head _)) (lk rfl) ag_28) ?_
  refine wl_v rfl (val_loadB (.tail _ (.tail _ (.tail _ (.tail _ (.tail _ (.tail _ (.head _))))))) (lk rfl) ag_28) ?_
  refine wl_call gd_none rfl ci_17 (args2 (lk rfl) (lk rfl)) (fun hG w1 hw => eqAcc_c (repA a q) (repA a q) _ _ _ _ _ _ _ _ w1 (Sl.own hw (.tail _ (.tail _ (.head _)))) (Sl.own hw (.tail _ (.tail _ (.tail _ (.tail _ (.tail _ (.tail _ (.tail _ (.head _))))))))) (by omega)) ?_
  refine wl_v rfl (val_not (lk rfl)) ?_
  refine wl_v rfl (val_move (lk rfl)) ?_
  refine wl_val (gd_f rfl rfl rfl) rfl (val_loadB (.head _) (lk rfl) ag_41) ?_
  refine wl_val (gd_f rfl rfl rfl) rfl (val_loadB (.tail _ (.tail _ (.tail _ (.tail _ (.tail _ (.head _)))))) (lk rfl) ag_41) ?_
  refine wl_call (gd_f rfl rfl rfl) rfl ci_27 (args2 (lkg rfl) (lkg rfl)) (fun hG w1 hw => eqQuota_c (repQ a q) (repQ a q) w1) ?_
  refine wl_val (gd_f rfl rfl rfl) rfl (val_not (lkg rfl)) ?_
  refine wl_v rfl (val_or (lk rfl) (lkg rfl)) ?_
  refine wl_nil ?_
  refine px_then ?_
  refine wc_cond (lk rfl) (fun hc1 => ?_) (fun hc1 => ?_)
  · refine wc_seq ?_
    refine wc_region ?_
    refine wl_v rfl (val_assign lkc) ?_
    refine wl_nil ?_
    refine px_then ?_
    refine wc_ret ?_
    refine px_then_ret ?_
    refine fin1 rfl (res_tmp rfl) (fun w1 hw => ?_)
    first | exact ⟨rfl, hw.drop rfl⟩ | (exfalso; revert hc1; simp; done) | (exfalso; revert hc1; simp; omega) | (exfalso; revert hc1; rw [Acc.eqb_refl]; simp; done) | (exfalso; revert hc1; rw [Acc.eqb_refl]; simp; omega) | (exfalso; revert hc1; rw [Quota.eqb_refl]; simp; done) | (exfalso; revert hc1; rw [Acc.eqb_refl, Quota.eqb_refl]; simp; done) | (exfalso; revert hc1; rw [Acc.eqb_refl, Quota.eqb_refl]; simp; omega) | (exfalso; have h9 := of_decide_eq_true hc1; omega)
  refine wc_skip ?_
  refine px_then ?_
  refine wc_seq ?_
  refine wc_seq ?_
  refine wc_region_a0 5 mo_ rfl ?_
  refine wa_take 0 rfl (by kernel_rfl) (by kernel_rfl) (by kernel_rfl) (by kernel_rfl) (fun _ h => h.dropN 0 rfl) gd_none rfl (val_loadB (.tail _ (.tail _ (.tail _ (.head _)))) (lk rfl) ag_28) ?_
  refine wa_take 1 rfl (by kernel_rfl) (by kernel_rfl) (by kernel_rfl) (by kernel_rfl) (fun _ h => h.dropN 0 rfl) gd_none rfl (val_loadB (.tail _ (.tail _ (.tail _ (.tail _ (.tail _ (.tail _ (.tail _ (.tail _ (.tail _ (.tail _ (.head _))))))))))) (lk rfl) ag_24) ?_
  refine wa_only 2 (by kernel_rfl) rfl ?_
  refine wl_callx rfl ci_15 (args1 (lk rfl)) (fun w1 hw => toAcc_c a _ _ _ _ w1 (hs.hp hw rfl) hl) (fun _ => rfl) ?_
  rintro ⟨gb50, gc50, gs50⟩ ⟨hgl50, hgc50⟩
  refine wl_nil (px_qn (fun _ h => h.dropN 1 rfl) ?_)
  refine wa_only 3 (by kernel_rfl) rfl ?_
  refine wl_call gd_none rfl ci_17 (args2 (lk rfl) (lk rfl)) (fun hG w1 hw => eqAcc_c (a) (a) _ _ _ _ _ _ _ _ w1 (Sl.own hw (.tail _ (.tail _ (.tail _ (.tail _ (.tail _ (.head _))))))) (Sl.own hw (.head _)) (by omega)) ?_
  refine wl_nil (px_qn (fun _ h => h.dropN 1 rfl) ?_)
  refine wa_take 4 rfl (by kernel_rfl) (by kernel_rfl) (by kernel_rfl) (by kernel_rfl) (fun _ h => h.dropN 1 rfl) gd_none rfl (val_not (lk rfl)) ?_
  refine wa_done (by kernel_rfl) ?_
  refine px_then ?_
  refine wc_cond (lk rfl) (fun hc2 => ?_) (fun hc2 => ?_)
  · refine wc_seq ?_
    refine wc_region ?_
    refine wl_v rfl (val_assign lkc) ?_
    refine wl_nil ?_
    refine px_then ?_
    refine wc_ret ?_
    refine px_then_ret ?_
    refine fin1 rfl (res_tmp rfl) (fun w1 hw => ?_)
    first | exact ⟨rfl, hw.drop rfl⟩ | (exfalso; revert hc2; simp; done) | (exfalso; revert hc2; simp; omega) | (exfalso; revert hc2; rw [Acc.eqb_refl]; simp; done) | (exfalso; revert hc2; rw [Acc.eqb_refl]; simp; omega) | (exfalso; revert hc2; rw [Quota.eqb_refl]; simp; done) | (exfalso; revert hc2; rw [Acc.eqb_refl, Quota.eqb_refl]; simp; done) | (exfalso; revert hc2; rw [Acc.eqb_refl, Quota.eqb_refl]; simp; omega) | (exfalso; have h9 := of_decide_eq_true hc2; omega)
  refine wc_skip ?_
  refine px_then ?_
  refine wc_seq ?_
  refine wc_region ?_
  refine wl_v rfl (val_assign lkc) ?_
  refine wl_nil ?_
  refine px_then ?_
  refine wc_seq ?_
  refine wc_region ?_
  refine wl_v rfl (val_loadB (.tail _ (.tail _ (.tail _ (.tail _ (.head _))))) (lk rfl) ag_28) ?_
  refine wl_v rfl (val_move (lk rfl)) ?_
  refine wl_callw 5 rfl ci_18 (args2 (lk rfl) (lk rfl)) rfl (fun w1 hw => markAcc_c (a) _ _ _ 1 _ w1 (fun _ => rfl) (hw.own _ (.tail _ (.tail _ (.tail _ (.tail _ (.tail _ (.head _))))))) (by omega) (by decide) (by rw [List.length_append, flat_len encR_len]; omega)) (fun _ => rfl) ?_
  rintro ⟨⟩ -
  refine wl_v rfl (val_assign (lk rfl)) ?_
  refine wl_nil ?_
  refine px_then ?_
  refine wc_seq ?_
  refine wc_seq ?_
  refine wc_region ?_
  refine wl_v rfl (val_move (lk rfl)) ?_
  refine wl_v rfl (val_lss (lk rfl) lkc) ?_
  refine wl_v rfl (val_move (lk rfl)) ?_
  refine wl_val (gd_f rfl rfl rfl) rfl (val_loadB (.tail _ (.tail _ (.head _))) (lk rfl) ag_28) ?_
  refine wl_val (gd_f rfl rfl rfl) rfl (val_loadB (.tail _ (.tail _ (.tail _ (.tail _ (.tail _ (.tail _ (.tail _ (.head _)))))))) (lk rfl) ag_28) ?_
  refine wl_call (gd_f rfl rfl rfl) rfl ci_17 (args2 (lkg rfl) (lkg rfl)) (fun hG w1 hw => eqAcc_c (repA a q) (repA a q) _ _ _ _ _ _ _ _ w1 (Sl.own hw (.tail _ (.tail _ (.tail _ (.head _))))) (Sl.own hw (.tail _ (.tail _ (.tail _ (.tail _ (.tail _ (.tail _ (.tail _ (.tail _ (.head _)))))))))) (by omega)) ?_
  refine wl_val (gd_f rfl rfl rfl) rfl (val_not (lkg rfl)) ?_
  refine wl_v rfl (val_or (lk rfl) (lkg rfl)) ?_
  refine wl_v rfl (val_move (lk rfl)) ?_
  refine wl_val (gd_f rfl rfl rfl) rfl (val_loadB (.tail _ (.head _)) (lk rfl) ag_41) ?_
  refine wl_val (gd_f rfl rfl rfl) rfl (val_loadB (.tail _ (.tail _ (.tail _ (.tail _ (.tail _ (.tail _ (.head _))))))) (lk rfl) ag_41) ?_
  refine wl_call (gd_f rfl rfl rfl) rfl ci_27 (args2 (lkg rfl) (lkg rfl)) (fun hG w1 hw => eqQuota_c (repQ a q) (repQ a q) w1) ?_
  refine wl_val (gd_f rfl rfl rfl) rfl (val_not (lkg rfl)) ?_
  refine wl_v rfl (val_or (lk rfl) (lkg rfl)) ?_
  refine wl_nil ?_
  refine px_then ?_
  refine wc_cond (lk rfl) (fun hc3 => ?_) (fun hc3 => ?_)
  · refine wc_seq ?_
    refine wc_region ?_
    refine wl_v rfl (val_assign lkc) ?_
    refine wl_nil ?_
    refine px_then ?_
    refine wc_ret ?_
    refine px_then_ret ?_
    refine fin1 rfl (res_tmp rfl) (fun w1 hw => ?_)
    first | exact ⟨rfl, hw.drop rfl⟩ | (exfalso; revert hc3; simp; done) | (exfalso; revert hc3; simp; omega) | (exfalso; revert hc3; rw [Acc.eqb_refl]; simp; done) | (exfalso; revert hc3; rw [Acc.eqb_refl]; simp; omega) | (exfalso; revert hc3; rw [Quota.eqb_refl]; simp; done) | (exfalso; revert hc3; rw [Acc.eqb_refl, Quota.eqb_refl]; simp; done) | (exfalso; revert hc3; rw [Acc.eqb_refl, Quota.eqb_refl]; simp; omega) | (exfalso; have h9 := of_decide_eq_true hc3; omega)
  refine wc_skip ?_
  refine px_then ?_
  refine wc_seq ?_
  refine wc_region ?_
  refine wl_v rfl (val_assign lkc) ?_
  refine wl_nil ?_
  refine px_then ?_
  refine wc_seq ?_
  refine wc_region ?_
  refine wl_v rfl (val_loadB (.tail _ (.tail _ (.head _))) (lk rfl) ag_28) ?_
  refine wl_v rfl (val_move (lk rfl)) ?_
  refine wl_callw 3 rfl ci_18 (args2 (lk rfl) (lk rfl)) rfl (fun w1 hw => markAcc_c (repA a q) _ _ _ 1 _ w1 (fun _ => rfl) (hw.own _ (.tail _ (.tail _ (.tail _ (.head _))))) (by omega) (by decide) (by rw [List.length_append, flat_len encR_len]; omega)) (fun _ => rfl) ?_
  rintro ⟨⟩ -
  refine wl_v rfl (val_assign (lk rfl)) ?_
  refine wl_nil ?_
  refine px_then ?_
  refine wc_seq ?_
  refine wc_region ?_
  refine wl_v rfl (val_assign lkc) ?_
  refine wl_nil ?_
  refine px_then ?_
  refine wc_seq ?_
  refine wc_region ?_
  refine wl_v rfl (val_loadB (.tail _ (.tail _ (.head _))) (lk rfl) ag_28) ?_
  refine wl_v rfl (val_move (lk rfl)) ?_
  refine wl_call gd_none rfl ci_19 (args2 (lk rfl) (lk rfl)) (fun hG w1 hw => heldAcc_c (repA a q) _ _ 0 _ 1 w1 (Sl.own hw (.tail _ (.tail _ (.tail _ (.head _))))) (by omega) (by decide)) ?_
  refine wl_v rfl (val_assign (lk rfl)) ?_
  refine wl_nil ?_
  refine px_then ?_
  refine wc_seq ?_
  refine wc_seq ?_
  refine wc_region ?_
  refine wl_v rfl (val_move (lk rfl)) ?_
  refine wl_v rfl (val_lss (lk rfl) lkc) ?_
  refine wl_nil ?_
  refine px_then ?_
  refine wc_cond (lk rfl) (fun hc4 => ?_) (fun hc4 => ?_)
  · refine wc_seq ?_
    refine wc_region ?_
    refine wl_v rfl (val_assign lkc) ?_
    refine wl_nil ?_
    refine px_then ?_
    refine wc_ret ?_
    refine px_then_ret ?_
    refine fin1 rfl (res_tmp rfl) (fun w1 hw => ?_)
    first | exact ⟨rfl, hw.drop rfl⟩ | (exfalso; revert hc4; simp; done) | (exfalso; revert hc4; simp; omega) | (exfalso; revert hc4; rw [Acc.eqb_refl]; simp; done) | (exfalso; revert hc4; rw [Acc.eqb_refl]; simp; omega) | (exfalso; revert hc4; rw [Quota.eqb_refl]; simp; done) | (exfalso; revert hc4; rw [Acc.eqb_refl, Quota.eqb_refl]; simp; done) | (exfalso; revert hc4; rw [Acc.eqb_refl, Quota.eqb_refl]; simp; omega) | (exfalso; have h9 := of_decide_eq_true hc4; omega)
  refine wc_skip ?_
  refine px_then ?_
  refine wc_seq ?_
  refine wc_seq ?_
  refine wc_region ?_
  refine wl_v rfl (val_move (lk rfl)) ?_
  refine wl_v rfl (val_move (lk rfl)) ?_
  refine wl_v rfl (val_neq (lk rfl) (lk rfl)) ?_
  refine wl_nil ?_
  refine px_then ?_
  refine wc_cond (lk rfl) (fun hc5 => ?_) (fun hc5 => ?_)
  · refine wc_seq ?_
    refine wc_region ?_
    refine wl_v rfl (val_assign lkc) ?_
    refine wl_nil ?_
    refine px_then ?_
    refine wc_ret ?_
    refine px_then_ret ?_
    refine fin1 rfl (res_tmp rfl) (fun w1 hw => ?_)
    first | exact ⟨rfl, hw.drop rfl⟩ | (exfalso; revert hc5; simp; done) | (exfalso; revert hc5; simp; omega) | (exfalso; revert hc5; rw [Acc.eqb_refl]; simp; done) | (exfalso; revert hc5; rw [Acc.eqb_refl]; simp; omega) | (exfalso; revert hc5; rw [Quota.eqb_refl]; simp; done) | (exfalso; revert hc5; rw [Acc.eqb_refl, Quota.eqb_refl]; simp; done) | (exfalso; revert hc5; rw [Acc.eqb_refl, Quota.eqb_refl]; simp; omega) | (exfalso; have h9 := of_decide_eq_true hc5; omega)
  refine wc_skip ?_
  refine px_then ?_
  refine wc_seq ?_
  refine wc_region_a0 12 mo_ rfl ?_
  refine wa_take 0 rfl (by kernel_rfl) (by kernel_rfl) (by kernel_rfl) (by kernel_rfl) (fun _ h => h.dropN 0 rfl) gd_none rfl (val_loadB (.tail _ (.tail _ (.tail _ (.tail _ (.tail _ (.tail _ (.tail _ (.tail _ (.tail _ (.tail _ (.tail _ (.head _)))))))))))) (lk rfl) ag_24) ?_
  refine wa_take 2 rfl (by kernel_rfl) (by kernel_rfl) (by kernel_rfl) (by kernel_rfl) (fun _ h => h.dropN 0 rfl) gd_none rfl (val_loadB (.tail _ (.tail _ (.tail _ (.tail _ (.tail _ (.tail _ (.tail _ (.tail _ (.tail _ (.tail _ (.head _))))))))))) (lk rfl) ag_40) ?_
  refine wa_chn2 [(false, 1, 83), (false, 3, 85), (false, 4, 86), (true, 5, 81), (true, 6, 87), (true, 7, 88)] 8 14 9 15 8 [1, 3, 4, 5, 6, 7, 8, 9] (fun _ h => h.dropN 0 rfl) (by kernel_rfl) (by kernel_rfl) rfl rfl rfl rfl rfl (fun _ _ => ops_alloc rfl zc_28 rfl) (fun _ _ => ops_alloc rfl zc_41 rfl) ?_
  refine ch_o (ops_callx rfl rfl ci_15 (args1 (lk rfl)) (fun w1 hw => toAcc_c a _ _ _ _ w1 (hs.hp hw rfl) hl) (fun _ => rfl)) ?_
  rintro _ _ ⟨⟨gb83, gc83, gs83⟩, ⟨hgl83, hgc83⟩, rfl, rfl⟩
  refine ch_o (ops_call rfl rfl ci_25 (args1 (lk rfl)) (fun w1 hw => toQuota_c q w1)) ?_
  rintro _ _ ⟨rfl, rfl⟩
  refine ch_o (ops_callx rfl rfl ci_26 (args2 (lk rfl) (lk rfl)) (fun w1 hw => Report_c a _ _ _ _ q w1 (Sl.own hw (.head _)) hl) (fun _ => rfl)) ?_
  rintro _ _ ⟨⟨gb86, gc86, gs86⟩, ⟨hgl86, hgc86⟩, rfl, rfl⟩
  refine ch_q rfl gd_none rfl (val_move (lk rfl)) ?_
  refine ch_q rfl gd_none rfl (val_extract (lk rfl) rfl) ?_
  refine ch_q rfl gd_none rfl (val_extract (lk rfl) rfl) ?_
  refine ch_nil ?_
  rintro _ _ ⟨b8, rfl, rfl⟩
  rintro _ _ ⟨b9, rfl, rfl⟩
  refine wa_only 10 (by kernel_rfl) rfl ?_
  refine wl_storeB 1 rfl (lk rfl) (lk rfl) ag_28 rfl rfl ?_
  refine wl_nil (px_qn (fun _ h => h.dropN 4 rfl) ?_)
  refine wa_only 11 (by kernel_rfl) rfl ?_
  refine wl_storeB 0 rfl (lk rfl) (lk rfl) ag_41 rfl rfl ?_
  refine wl_nil (px_qn (fun _ h => h.dropN 4 rfl) ?_)
  refine wa_done (by kernel_rfl) ?_
  refine px_then ?_
  refine wc_seq ?_
  refine wc_seq ?_
  refine wc_region ?_
  refine wl_v rfl (val_loadB (.tail _ (.head _)) (lk rfl) ag_28) ?_
  refine wl_v rfl (val_loadB (.tail _ (.tail _ (.tail _ (.tail _ (.tail _ (.tail _ (.tail _ (.tail _ (.tail _ (.tail _ (.tail _ (.head _)))))))))))) (lk rfl) ag_28) ?_
  refine wl_call gd_none rfl ci_17 (args2 (lk rfl) (lk rfl)) (fun hG w1 hw => eqAcc_c (repA a q) (repA a q) _ _ _ _ _ _ _ _ w1 (Sl.own hw (.tail _ (.tail _ (.head _)))) (Sl.own hw (.tail _ (.tail _ (.tail _ (.tail _ (.tail _ (.tail _ (.tail _ (.tail _ (.tail _ (.tail _ (.tail _ (.tail _ (.head _)))))))))))))) (by omega)) ?_
  refine wl_v rfl (val_not (lk rfl)) ?_
  refine wl_v rfl (val_move (lk rfl)) ?_
  refine wl_val (gd_f rfl rfl rfl) rfl (val_loadB (.head _) (lk rfl) ag_41) ?_
  refine wl_val (gd_f rfl rfl rfl) rfl (val_loadB (.tail _ (.tail _ (.tail _ (.tail _ (.tail _ (.tail _ (.tail _ (.tail _ (.tail _ (.tail _ (.head _))))))))))) (lk rfl) ag_41) ?_
  refine wl_call (gd_f rfl rfl rfl) rfl ci_27 (args2 (lkg rfl) (lkg rfl)) (fun hG w1 hw => eqQuota_c (repQ a q) (repQ a q) w1) ?_
  refine wl_val (gd_f rfl rfl rfl) rfl (val_not (lkg rfl)) ?_
  refine wl_v rfl (val_or (lk rfl) (lkg rfl)) ?_
  refine wl_nil ?_
  refine px_then ?_
  refine wc_cond (lk rfl) (fun hc6 => ?_) (fun hc6 => ?_)
  · refine wc_seq ?_
    refine wc_region ?_
    refine wl_v rfl (val_assign lkc) ?_
    refine wl_nil ?_
    refine px_then ?_
    refine wc_ret ?_
    refine px_then_ret ?_
    refine fin1 rfl (res_tmp rfl) (fun w1 hw => ?_)
    first | exact ⟨rfl, hw.drop rfl⟩ | (exfalso; revert hc6; simp; done) | (exfalso; revert hc6; simp; omega) | (exfalso; revert hc6; rw [Acc.eqb_refl]; simp; done) | (exfalso; revert hc6; rw [Acc.eqb_refl]; simp; omega) | (exfalso; revert hc6; rw [Quota.eqb_refl]; simp; done) | (exfalso; revert hc6; rw [Acc.eqb_refl, Quota.eqb_refl]; simp; done) | (exfalso; revert hc6; rw [Acc.eqb_refl, Quota.eqb_refl]; simp; omega) | (exfalso; have h9 := of_decide_eq_true hc6; omega)
  refine wc_skip ?_
  refine px_then ?_
  refine wc_seq ?_
  refine wc_region ?_
  refine wl_v rfl (val_assign lkc) ?_
  refine wl_nil ?_
  refine px_then ?_
  refine wc_seq ?_
  refine wc_region ?_
  refine wl_v rfl (val_loadB (.tail _ (.tail _ (.tail _ (.tail _ (.tail _ (.tail _ (.head _))))))) (lk rfl) ag_28) ?_
  refine wl_v rfl (val_move (lk rfl)) ?_
  refine wl_call gd_none rfl ci_19 (args2 (lk rfl) (lk rfl)) (fun hG w1 hw => heldAcc_c (repA a q) _ _ 0 _ 1 w1 (Sl.own hw (.tail _ (.tail _ (.tail _ (.tail _ (.tail _ (.tail _ (.tail _ (.head _))))))))) (by omega) (by decide)) ?_
  refine wl_v rfl (val_assign (lk rfl)) ?_
  refine wl_nil ?_
  refine px_then ?_
  refine wc_seq ?_
  refine wc_seq ?_
  refine wc_region ?_
  refine wl_v rfl (val_move (lk rfl)) ?_
  refine wl_v rfl (val_lss (lk rfl) lkc) ?_
  refine wl_nil ?_
  refine px_then ?_
  refine wc_cond (lk rfl) (fun hc7 => ?_) (fun hc7 => ?_)
  · refine wc_seq ?_
    refine wc_region ?_
    refine wl_v rfl (val_assign lkc) ?_
    refine wl_nil ?_
    refine px_then ?_
    refine wc_ret ?_
    refine px_then_ret ?_
    refine fin1 rfl (res_tmp rfl) (fun w1 hw => ?_)
    first | exact ⟨rfl, hw.drop rfl⟩ | (exfalso; revert hc7; simp; done) | (exfalso; revert hc7; simp; omega) | (exfalso; revert hc7; rw [Acc.eqb_refl]; simp; done) | (exfalso; revert hc7; rw [Acc.eqb_refl]; simp; omega) | (exfalso; revert hc7; rw [Quota.eqb_refl]; simp; done) | (exfalso; revert hc7; rw [Acc.eqb_refl, Quota.eqb_refl]; simp; done) | (exfalso; revert hc7; rw [Acc.eqb_refl, Quota.eqb_refl]; simp; omega) | (exfalso; have h9 := of_decide_eq_true hc7; omega)
  refine wc_skip ?_
  refine px_then ?_
  refine wc_seq ?_
  refine wc_seq ?_
  refine wc_region ?_
  refine wl_v rfl (val_move (lk rfl)) ?_
  refine wl_v rfl (val_move (lk rfl)) ?_
  refine wl_v rfl (val_neq (lk rfl) (lk rfl)) ?_
  refine wl_nil ?_
  refine px_then ?_
  refine wc_cond (lk rfl) (fun hc8 => ?_) (fun hc8 => ?_)
  · refine wc_seq ?_
    refine wc_region ?_
    refine wl_v rfl (val_assign lkc) ?_
    refine wl_nil ?_
    refine px_then ?_
    refine wc_ret ?_
    refine px_then_ret ?_
    refine fin1 rfl (res_tmp rfl) (fun w1 hw => ?_)
    first | exact ⟨rfl, hw.drop rfl⟩ | (exfalso; revert hc8; simp; done) | (exfalso; revert hc8; simp; omega) | (exfalso; revert hc8; rw [Acc.eqb_refl]; simp; done) | (exfalso; revert hc8; rw [Acc.eqb_refl]; simp; omega) | (exfalso; revert hc8; rw [Quota.eqb_refl]; simp; done) | (exfalso; revert hc8; rw [Acc.eqb_refl, Quota.eqb_refl]; simp; done) | (exfalso; revert hc8; rw [Acc.eqb_refl, Quota.eqb_refl]; simp; omega) | (exfalso; have h9 := of_decide_eq_true hc8; omega)
  refine wc_skip ?_
  refine px_then ?_
  refine wc_seq ?_
  refine wc_region ?_
  refine wl_v rfl (val_assign lkc) ?_
  refine wl_nil ?_
  refine px_then ?_
  refine wc_ret ?_
  refine fin1 rfl (res_tmp rfl) (fun w1 hw => ?_)
  first | exact ⟨rfl, hw.drop rfl⟩ | (exfalso; revert hc8; simp; done) | (exfalso; revert hc8; simp; omega) | (exfalso; revert hc8; rw [Acc.eqb_refl]; simp; done) | (exfalso; revert hc8; rw [Acc.eqb_refl]; simp; omega) | (exfalso; revert hc8; rw [Quota.eqb_refl]; simp; done) | (exfalso; revert hc8; rw [Acc.eqb_refl, Quota.eqb_refl]; simp; done) | (exfalso; revert hc8; rw [Acc.eqb_refl, Quota.eqb_refl]; simp; omega) | (exfalso; have h9 := of_decide_eq_true hc8; omega)

theorem law_RequestQuota (a : Acc) (A : Option Addr) (b o c : Nat) (q : Quota) (n : Int) (w : World) (hs : Sl w A b o (flat encR a.res)) (hm : a.res.length ≤ 9223372036854775807) :
    Calls Try.prog 7 #[a.val A c, q.val, .int .i64 n] w fun e w' => e = .returned (.bool true) ∧ HP w [] w' := by
  refine calls_entry [] _ Try.func7 rfl Try.ntmps7 (HP.refl w) (env3 rfl) ?_
  refine wc_seq ?_
  refine wc_region ?_
  refine wl_box (lk rfl) rfl fun b1 => ?_
  refine wl_box (lk rfl) rfl fun b2 => ?_
  refine wl_v rfl (val_assign lkc) ?_
  refine wl_nil ?_
  refine px_then ?_
  refine wc_seq ?_
  refine wc_region ?_
  refine wl_v rfl (val_assign lkc) ?_
  refine wl_nil ?_
  refine px_then ?_
  refine wc_seq ?_
  refine wc_region ?_
  refine wl_v rfl (val_loadB (.tail _ (.head _)) (lk rfl) ag_24) ?_
  refine wl_v rfl (val_move (lk rfl)) ?_
  refine wl_call gd_none rfl ci_13 (args2 (lk rfl) (lk rfl)) (fun hG w1 hw => szAcc_c a _ _ _ w1 (by omega) hm) ?_
  refine wl_v rfl (val_assign (lk rfl)) ?_
  refine wl_nil ?_
  refine px_then ?_
  refine wc_seq ?_
  refine wc_seq ?_
  refine wc_region ?_
  refine wl_v rfl (val_move (lk rfl)) ?_
  refine wl_v rfl (val_lss (lk rfl) lkc) ?_
  refine wl_nil ?_
  refine px_then ?_
  refine wc_cond (lk rfl) (fun hc0 => ?_) (fun hc0 => ?_)
  · refine wc_seq ?_
    refine wc_region ?_
    refine wl_v rfl (val_assign lkc) ?_
    refine wl_nil ?_
    refine px_then ?_
    refine wc_ret ?_
    refine px_then_ret ?_
    refine fin1 rfl (res_tmp rfl) (fun w1 hw => ?_)
    first | exact ⟨rfl, hw.drop rfl⟩ | (exfalso; revert hc0; simp; done) | (exfalso; revert hc0; simp; omega) | (exfalso; revert hc0; rw [Acc.eqb_refl]; simp; done) | (exfalso; revert hc0; rw [Acc.eqb_refl]; simp; omega) | (exfalso; revert hc0; rw [Quota.eqb_refl]; simp; done) | (exfalso; revert hc0; rw [Acc.eqb_refl, Quota.eqb_refl]; simp; done) | (exfalso; revert hc0; rw [Acc.eqb_refl, Quota.eqb_refl]; simp; omega) | (exfalso; have h9 := of_decide_eq_true hc0; omega)
  have hl : a.res.length ≤ 1048576 := by have h9 := of_decide_eq_false hc0; unfold szN at h9; split at h9 <;> omega
  have hdl := req_len a q n
  refine wc_skip ?_
  refine px_then ?_
  refine wc_seq ?_
  refine wc_region_a0 13 mo_ rfl ?_
  refine wa_take 0 rfl (by kernel_rfl) (by kernel_rfl) (by kernel_rfl) (by kernel_rfl) (fun _ h => h.dropN 0 rfl) gd_none rfl (val_loadB (.tail _ (.head _)) (lk rfl) ag_24) ?_
  refine wa_take 2 rfl (by kernel_rfl) (by kernel_rfl) (by kernel_rfl) (by kernel_rfl) (fun _ h => h.dropN 0 rfl) gd_none rfl (val_loadB (.head _) (lk rfl) ag_40) ?_
  refine wa_take 4 rfl (by kernel_rfl) (by kernel_rfl) (by kernel_rfl) (by kernel_rfl) (fun _ h => h.dropN 0 rfl) gd_none rfl (val_move (lk rfl)) ?_
  refine wa_chn2 [(false, 1, 25), (false, 3, 27), (false, 5, 29), (true, 6, 23), (true, 7, 30), (true, 8, 31)] 9 8 10 9 8 [1, 3, 5, 6, 7, 8, 9, 10] (fun _ h => h.dropN 0 rfl) (by kernel_rfl) (by kernel_rfl) rfl rfl rfl rfl rfl (fun _ _ => ops_alloc rfl zc_28 rfl) (fun _ _ => ops_alloc rfl zc_41 rfl) ?_
  refine ch_o (ops_callx rfl rfl ci_15 (args1 (lk rfl)) (fun w1 hw => toAcc_c a _ _ _ _ w1 (hs.hp hw rfl) hl) (fun _ => rfl)) ?_
  rintro _ _ ⟨⟨gb25, gc25, gs25⟩, ⟨hgl25, hgc25⟩, rfl, rfl⟩
  refine ch_o (ops_call rfl rfl ci_25 (args1 (lk rfl)) (fun w1 hw => toQuota_c q w1)) ?_
  rintro _ _ ⟨rfl, rfl⟩
  refine ch_o (ops_callx rfl rfl ci_28 (args3 (lk rfl) (lk rfl) (lk rfl)) (fun w1 hw => sRequest_c a _ _ _ _ q n w1 (Sl.own hw (.head _)) hl (cap_le encR_len (by decide) hgl25)) (fun _ => rfl)) ?_
  rintro _ _ ⟨⟨gb29, gc29, gs29⟩, ⟨hgl29, hgc29⟩, rfl, rfl⟩
  refine ch_q rfl gd_none rfl (val_move (lk rfl)) ?_
  refine ch_q rfl gd_none rfl (val_extract (lk rfl) rfl) ?_
  refine ch_q rfl gd_none rfl (val_extract (lk rfl) rfl) ?_
  refine ch_nil ?_
  rintro _ _ ⟨b3, rfl, rfl⟩
  rintro _ _ ⟨b4, rfl, rfl⟩
  refine wa_only 11 (by kernel_rfl) rfl ?_
  refine wl_storeB 1 rfl (lk rfl) (lk rfl) ag_28 rfl rfl ?_
  refine wl_nil (px_qn (fun _ h => h.dropN 4 rfl) ?_)
  refine wa_only 12 (by kernel_rfl) rfl ?_
  refine wl_storeB 0 rfl (lk rfl) (lk rfl) ag_41 rfl rfl ?_
  refine wl_nil (px_qn (fun _ h => h.dropN 4 rfl) ?_)
  refine wa_done (by kernel_rfl) ?_
  refine px_then ?_
  refine wc_seq ?_
  refine wc_region ?_
  refine wl_v rfl (val_loadB (.tail _ (.tail _ (.tail _ (.tail _ (.tail _ (.head _)))))) (lk rfl) ag_24) ?_
  refine wl_callx rfl ci_15 (args1 (lk rfl)) (fun w1 hw => toAcc_c a _ _ _ _ w1 (hs.hp hw rfl) hl) (fun _ => rfl) ?_
  rintro ⟨gb33, gc33, gs33⟩ ⟨hgl33, hgc33⟩
  refine wl_alloc zc_28 rfl fun b5 => ?_
  refine wl_storeB 0 rfl (lk rfl) (lk rfl) ag_28 rfl rfl ?_
  refine wl_nil ?_
  refine px_then ?_
  refine wc_seq ?_
  refine wc_region_a0 12 mo_ rfl ?_
  refine wa_take 0 rfl (by kernel_rfl) (by kernel_rfl) (by kernel_rfl) (by kernel_rfl) (fun _ h => h.dropN 0 rfl) gd_none rfl (val_loadB (.head _) (lk rfl) ag_28) ?_
  refine wa_take 1 rfl (by kernel_rfl) (by kernel_rfl) (by kernel_rfl) (by kernel_rfl) (fun _ h => h.dropN 0 rfl) gd_none rfl (val_loadB (.tail _ (.tail _ (.tail _ (.tail _ (.tail _ (.tail _ (.head _))))))) (lk rfl) ag_40) ?_
  refine wa_take 3 rfl (by kernel_rfl) (by kernel_rfl) (by kernel_rfl) (by kernel_rfl) (fun _ h => h.dropN 0 rfl) gd_none rfl (val_move (lk rfl)) ?_
  refine wa_chn2 [(false, 2, 37), (false, 4, 39), (true, 5, 34), (true, 6, 40), (true, 7, 41)] 8 11 9 12 7 [2, 4, 5, 6, 7, 8, 9] (fun _ h => h.dropN 0 rfl) (by kernel_rfl) (by kernel_rfl) rfl rfl rfl rfl rfl (fun _ _ => ops_alloc rfl zc_28 rfl) (fun _ _ => ops_alloc rfl zc_41 rfl) ?_
  refine ch_o (ops_call rfl rfl ci_25 (args1 (lk rfl)) (fun w1 hw => toQuota_c q w1)) ?_
  rintro _ _ ⟨rfl, rfl⟩
  refine ch_o (ops_callx rfl rfl ci_29 (args3 (lk rfl) (lk rfl) (lk rfl)) (fun w1 hw => Request_c a _ _ _ _ q n w1 (Sl.own hw (.tail _ (.head _))) hl) (fun _ => rfl)) ?_
  rintro _ _ ⟨⟨gb39, gc39, gs39⟩, ⟨hgl39, hgc39⟩, rfl, rfl⟩
  refine ch_q rfl gd_none rfl (val_move (lk rfl)) ?_
  refine ch_q rfl gd_none rfl (val_extract (lk rfl) rfl) ?_
  refine ch_q rfl gd_none rfl (val_extract (lk rfl) rfl) ?_
  refine ch_nil ?_
  rintro _ _ ⟨b6, rfl, rfl⟩
  rintro _ _ ⟨b7, rfl, rfl⟩
  refine wa_only 10 (by kernel_rfl) rfl ?_
  refine wl_storeB 1 rfl (lk rfl) (lk rfl) ag_28 rfl rfl ?_
  refine wl_nil (px_qn (fun _ h => h.dropN 3 rfl) ?_)
  refine wa_only 11 (by kernel_rfl) rfl ?_
  refine wl_storeB 0 rfl (lk rfl) (lk rfl) ag_41 rfl rfl ?_
  refine wl_nil (px_qn (fun _ h => h.dropN 3 rfl) ?_)
  refine wa_done (by kernel_rfl) ?_
  refine px_then ?_
  refine wc_seq ?_
  refine wc_seq ?_
  refine wc_region ?_
  refine wl_v rfl (val_loadB (.tail _ (.head _)) (lk rfl) ag_28) ?_
  refine wl_v rfl (val_loadB (.tail _ (.tail _ (.tail _ (.tail _ (.tail _ (.tail _ (.head _))))))) (lk rfl) ag_28) ?_
  refine wl_call gd_none rfl ci_17 (args2 (lk rfl) (lk rfl)) (fun hG w1 hw => eqAcc_c (reqA a q n) (reqA a q n) _ _ _ _ _ _ _ _ w1 (Sl.own hw (.tail _ (.tail _ (.head _)))) (Sl.own hw (.tail _ (.tail _ (.tail _ (.tail _ (.tail _ (.tail _ (.tail _ (.head _))))))))) (by omega)) ?_
  refine wl_v rfl (val_not (lk rfl)) ?_
  refine wl_v rfl (val_move (lk rfl)) ?_
  refine wl_val (gd_f rfl rfl rfl) rfl (val_loadB (.head _) (lk rfl) ag_41) ?_
  refine wl_val (gd_f rfl rfl rfl) rfl (val_loadB (.tail _ (.tail _ (.tail _ (.tail _ (.tail _ (.head _)))))) (lk rfl) ag_41) ?_
  refine wl_call (gd_f rfl rfl rfl) rfl ci_27 (args2 (lkg rfl) (lkg rfl)) (fun hG w1 hw => eqQuota_c (reqQ a q n) (reqQ a q n) w1) ?_
  refine wl_val (gd_f rfl rfl rfl) rfl (val_not (lkg rfl)) ?_
  refine wl_v rfl (val_or (lk rfl) (lkg rfl)) ?_
  refine wl_nil ?_
  refine px_then ?_
  refine wc_cond (lk rfl) (fun hc1 => ?_) (fun hc1 => ?_)
  · refine wc_seq ?_
    refine wc_region ?_
    refine wl_v rfl (val_assign lkc) ?_
    refine wl_nil ?_
    refine px_then ?_
    refine wc_ret ?_
    refine px_then_ret ?_
    refine fin1 rfl (res_tmp rfl) (fun w1 hw => ?_)
    first | exact ⟨rfl, hw.drop rfl⟩ | (exfalso; revert hc1; simp; done) | (exfalso; revert hc1; simp; omega) | (exfalso; revert hc1; rw [Acc.eqb_refl]; simp; done) | (exfalso; revert hc1; rw [Acc.eqb_refl]; simp; omega) | (exfalso; revert hc1; rw [Quota.eqb_refl]; simp; done) | (exfalso; revert hc1; rw [Acc.eqb_refl, Quota.eqb_refl]; simp; done) | (exfalso; revert hc1; rw [Acc.eqb_refl, Quota.eqb_refl]; simp; omega) | (exfalso; have h9 := of_decide_eq_true hc1; omega)
  refine wc_skip ?_
  refine px_then ?_
  refine wc_seq ?_
  refine wc_seq ?_
  refine wc_region_a0 5 mo_ rfl ?_
  refine wa_take 0 rfl (by kernel_rfl) (by kernel_rfl) (by kernel_rfl) (by kernel_rfl) (fun _ h => h.dropN 0 rfl) gd_none rfl (val_loadB (.tail _ (.tail _ (.tail _ (.head _)))) (lk rfl) ag_28) ?_
  refine wa_take 1 rfl (by kernel_rfl) (by kernel_rfl) (by kernel_rfl) (by kernel_rfl) (fun _ h => h.dropN 0 rfl) gd_none rfl (val_loadB (.tail _ (.tail _ (.tail _ (.tail _ (.tail _ (.tail _ (.tail _ (.tail _ (.tail _ (.tail _ (.head _))))))))))) (lk rfl) ag_24) ?_
  refine wa_only 2 (by kernel_rfl) rfl ?_
  refine wl_callx rfl ci_15 (args1 (lk rfl)) (fun w1 hw => toAcc_c a _ _ _ _ w1 (hs.hp hw rfl) hl) (fun _ => rfl) ?_
  rintro ⟨gb54, gc54, gs54⟩ ⟨hgl54, hgc54⟩
  refine wl_nil (px_qn (fun _ h => h.dropN 1 rfl) ?_)
  refine wa_only 3 (by kernel_rfl) rfl ?_
  refine wl_call gd_none rfl ci_17 (args2 (lk rfl) (lk rfl)) (fun hG w1 hw => eqAcc_c (a) (a) _ _ _ _ _ _ _ _ w1 (Sl.own hw (.tail _ (.tail _ (.tail _ (.tail _ (.tail _ (.head _))))))) (Sl.own hw (.head _)) (by omega)) ?_
  refine wl_nil (px_qn (fun _ h => h.dropN 1 rfl) ?_)
  refine wa_take 4 rfl (by kernel_rfl) (by kernel_rfl) (by kernel_rfl) (by kernel_rfl) (fun _ h => h.dropN 1 rfl) gd_none rfl (val_not (lk rfl)) ?_
  refine wa_done (by kernel_rfl) ?_
  refine px_then ?_
  refine wc_cond (lk rfl) (fun hc2 => ?_) (fun hc2 => ?_)
  · refine wc_seq ?_
    refine wc_region ?_
    refine wl_v rfl (val_assign lkc) ?_
    refine wl_nil ?_
    refine px_then ?_
    refine wc_ret ?_
    refine px_then_ret ?_
    refine fin1 rfl (res_tmp rfl) (fun w1 hw => ?_)
    first | exact ⟨rfl, hw.drop rfl⟩ | (exfalso; revert hc2; simp; done) | (exfalso; revert hc2; simp; omega) | (exfalso; revert hc2; rw [Acc.eqb_refl]; simp; done) | (exfalso; revert hc2; rw [Acc.eqb_refl]; simp; omega) | (exfalso; revert hc2; rw [Quota.eqb_refl]; simp; done) | (exfalso; revert hc2; rw [Acc.eqb_refl, Quota.eqb_refl]; simp; done) | (exfalso; revert hc2; rw [Acc.eqb_refl, Quota.eqb_refl]; simp; omega) | (exfalso; have h9 := of_decide_eq_true hc2; omega)
  refine wc_skip ?_
  refine px_then ?_
  refine wc_seq ?_
  refine wc_region ?_
  refine wl_v rfl (val_assign lkc) ?_
  refine wl_nil ?_
  refine px_then ?_
  refine wc_seq ?_
  refine wc_region ?_
  refine wl_v rfl (val_loadB (.tail _ (.tail _ (.tail _ (.tail _ (.head _))))) (lk rfl) ag_28) ?_
  refine wl_v rfl (val_move (lk rfl)) ?_
  refine wl_callw 5 rfl ci_18 (args2 (lk rfl) (lk rfl)) rfl (fun w1 hw => markAcc_c (a) _ _ _ 1 _ w1 (fun _ => rfl) (hw.own _ (.tail _ (.tail _ (.tail _ (.tail _ (.tail _ (.head _))))))) (by omega) (by decide) (by rw [List.length_append, flat_len encR_len]; omega)) (fun _ => rfl) ?_
  rintro ⟨⟩ -
  refine wl_v rfl (val_assign (lk rfl)) ?_
  refine wl_nil ?_
  refine px_then ?_
  refine wc_seq ?_
  refine wc_seq ?_
  refine wc_region ?_
  refine wl_v rfl (val_move (lk rfl)) ?_
  refine wl_v rfl (val_lss (lk rfl) lkc) ?_
  refine wl_v rfl (val_move (lk rfl)) ?_
  refine wl_val (gd_f rfl rfl rfl) rfl (val_loadB (.tail _ (.tail _ (.head _))) (lk rfl) ag_28) ?_
  refine wl_val (gd_f rfl rfl rfl) rfl (val_loadB (.tail _ (.tail _ (.tail _ (.tail _ (.tail _ (.tail _ (.tail _ (.head _)))))))) (lk rfl) ag_28) ?_
  refine wl_call (gd_f rfl rfl rfl) rfl ci_17 (args2 (lkg rfl) (lkg rfl)) (fun hG w1 hw => eqAcc_c (reqA a q n) (reqA a q n) _ _ _ _ _ _ _ _ w1 (Sl.own hw (.tail _ (.tail _ (.tail _ (.head _))))) (Sl.own hw (.tail _ (.tail _ (.tail _ (.tail _ (.tail _ (.tail _ (.tail _ (.tail _ (.head _)))))))))) (by omega)) ?_
  refine wl_val (gd_f rfl rfl rfl) rfl (val_not (lkg rfl)) ?_
  refine wl_v rfl (val_or (lk rfl) (lkg rfl)) ?_
  refine wl_v rfl (val_move (lk rfl)) ?_
  refine wl_val (gd_f rfl rfl rfl) rfl (val_loadB (.tail _ (.head _)) (lk rfl) ag_41) ?_
  refine wl_val (gd_f rfl rfl rfl) rfl (val_loadB (.tail _ (.tail _ (.tail _ (.tail _ (.tail _ (.tail _ (.head _))))))) (lk rfl) ag_41) ?_
  refine wl_call (gd_f rfl rfl rfl) rfl ci_27 (args2 (lkg rfl) (lkg rfl)) (fun hG w1 hw => eqQuota_c (reqQ a q n) (reqQ a q n) w1) ?_
  refine wl_val (gd_f rfl rfl rfl) rfl (val_not (lkg rfl)) ?_
  refine wl_v rfl (val_or (lk rfl) (lkg rfl)) ?_
  refine wl_nil ?_
  refine px_then ?_
  refine wc_cond (lk rfl) (fun hc3 => ?_) (fun hc3 => ?_)
  · refine wc_seq ?_
    refine wc_region ?_
    refine wl_v rfl (val_assign lkc) ?_
    refine wl_nil ?_
    refine px_then ?_
    refine wc_ret ?_
    refine px_then_ret ?_
    refine fin1 rfl (res_tmp rfl) (fun w1 hw => ?_)
    first | exact ⟨rfl, hw.drop rfl⟩ | (exfalso; revert hc3; simp; done) | (exfalso; revert hc3; simp; omega) | (exfalso; revert hc3; rw [Acc.eqb_refl]; simp; done) | (exfalso; revert hc3; rw [Acc.eqb_refl]; simp; omega) | (exfalso; revert hc3; rw [Quota.eqb_refl]; simp; done) | (exfalso; revert hc3; rw [Acc.eqb_refl, Quota.eqb_refl]; simp; done) | (exfalso; revert hc3; rw [Acc.eqb_refl, Quota.eqb_refl]; simp; omega) | (exfalso; have h9 := of_decide_eq_true hc3; omega)
  refine wc_skip ?_
  refine px_then ?_
  refine wc_seq ?_
  refine wc_region ?_
  refine wl_v rfl (val_assign lkc) ?_
  refine wl_nil ?_
  refine px_then ?_
  refine wc_seq ?_
  refine wc_region ?_
  refine wl_v rfl (val_loadB (.tail _ (.tail _ (.head _))) (lk rfl) ag_28) ?_
  refine wl_v rfl (val_move (lk rfl)) ?_
  refine wl_callw 3 rfl ci_18 (args2 (lk rfl) (lk rfl)) rfl (fun w1 hw => markAcc_c (reqA a q n) _ _ _ 1 _ w1 (fun _ => rfl) (hw.own _ (.tail _ (.tail _ (.tail _ (.head _))))) (by omega) (by decide) (by rw [List.length_append, flat_len encR_len]; omega)) (fun _ => rfl) ?_
  rintro ⟨⟩ -
  refine wl_v rfl (val_assign (lk rfl)) ?_
  refine wl_nil ?_
  refine px_then ?_
  refine wc_seq ?_
  refine wc_region ?_
  refine wl_v rfl (val_assign lkc) ?_
  refine wl_nil ?_
  refine px_then ?_
  refine wc_seq ?_
  refine wc_region ?_
  refine wl_v rfl (val_loadB (.tail _ (.tail _ (.head _))) (lk rfl) ag_28) ?_
  refine wl_v rfl (val_move (lk rfl)) ?_
  refine wl_call gd_none rfl ci_19 (args2 (lk rfl) (lk rfl)) (fun hG w1 hw => heldAcc_c (reqA a q n) _ _ 0 _ 1 w1 (Sl.own hw (.tail _ (.tail _ (.tail _ (.head _))))) (by omega) (by decide)) ?_
  refine wl_v rfl (val_assign (lk rfl)) ?_
  refine wl_nil ?_
  refine px_then ?_
  refine wc_seq ?_
  refine wc_seq ?_
  refine wc_region ?_
  refine wl_v rfl (val_move (lk rfl)) ?_
  refine wl_v rfl (val_lss (lk rfl) lkc) ?_
  refine wl_nil ?_
  refine px_then ?_
  refine wc_cond (lk rfl) (fun hc4 => ?_) (fun hc4 => ?_)
  · refine wc_seq ?_
    refine wc_region ?_
    refine wl_v rfl (val_assign lkc) ?_
    refine wl_nil ?_
    refine px_then ?_
    refine wc_ret ?_
    refine px_then_ret ?_
    refine fin1 rfl (res_tmp rfl) (fun w1 hw => ?_)
    first | exact ⟨rfl, hw.drop rfl⟩ | (exfalso; revert hc4; simp; done) | (exfalso; revert hc4; simp; omega) | (exfalso; revert hc4; rw [Acc.eqb_refl]; simp; done) | (exfalso; revert hc4; rw [Acc.eqb_refl]; simp; omega) | (exfalso; revert hc4; rw [Quota.eqb_refl]; simp; done) | (exfalso; revert hc4; rw [Acc.eqb_refl, Quota.eqb_refl]; simp; done) | (exfalso; revert hc4; rw [Acc.eqb_refl, Quota.eqb_refl]; simp; omega) | (exfalso; have h9 := of_decide_eq_true hc4; omega)
  refine wc_skip ?_
  refine px_then ?_
  refine wc_seq ?_
  refine wc_seq ?_
  refine wc_region ?_
  refine wl_v rfl (val_move (lk rfl)) ?_
  refine wl_v rfl (val_move (lk rfl)) ?_
  refine wl_v rfl (val_neq (lk rfl) (lk rfl)) ?_
  refine wl_nil ?_
  refine px_then ?_
  refine wc_cond (lk rfl) (fun hc5 => ?_) (fun hc5 => ?_)
  · refine wc_seq ?_
    refine wc_region ?_
    refine wl_v rfl (val_assign lkc) ?_
    refine wl_nil ?_
    refine px_then ?_
    refine wc_ret ?_
    refine px_then_ret ?_
    refine fin1 rfl (res_tmp rfl) (fun w1 hw => ?_)
    first | exact ⟨rfl, hw.drop rfl⟩ | (exfalso; revert hc5; simp; done) | (exfalso; revert hc5; simp; omega) | (exfalso; revert hc5; rw [Acc.eqb_refl]; simp; done) | (exfalso; revert hc5; rw [Acc.eqb_refl]; simp; omega) | (exfalso; revert hc5; rw [Quota.eqb_refl]; simp; done) | (exfalso; revert hc5; rw [Acc.eqb_refl, Quota.eqb_refl]; simp; done) | (exfalso; revert hc5; rw [Acc.eqb_refl, Quota.eqb_refl]; simp; omega) | (exfalso; have h9 := of_decide_eq_true hc5; omega)
  refine wc_skip ?_
  refine px_then ?_
  refine wc_seq ?_
  refine wc_region_a0 13 mo_ rfl ?_
  refine wa_take 0 rfl (by kernel_rfl) (by kernel_rfl) (by kernel_rfl) (by kernel_rfl) (fun _ h => h.dropN 0 rfl) gd_none rfl (val_loadB (.tail _ (.tail _ (.tail _ (.tail _ (.tail _ (.tail _ (.tail _ (.tail _ (.tail _ (.tail _ (.tail _ (.head _)))))))))))) (lk rfl) ag_24) ?_
  refine wa_take 2 rfl (by kernel_rfl) (by kernel_rfl) (by kernel_rfl) (by kernel_rfl) (fun _ h => h.dropN 0 rfl) gd_none rfl (val_loadB (.tail _ (.tail _ (.tail _ (.tail _ (.tail _ (.tail _ (.tail _ (.tail _ (.tail _ (.tail _ (.head _))))))))))) (lk rfl) ag_40) ?_
  refine wa_take 4 rfl (by kernel_rfl) (by kernel_rfl) (by kernel_rfl) (by kernel_rfl) (fun _ h => h.dropN 0 rfl) gd_none rfl (val_move (lk rfl)) ?_
  refine wa_chn2 [(false, 1, 87), (false, 3, 89), (false, 5, 91), (true, 6, 85), (true, 7, 92), (true, 8, 93)] 9 16 10 17 8 [1, 3, 5, 6, 7, 8, 9, 10] (fun _ h => h.dropN 0 rfl) (by kernel_rfl) (by kernel_rfl) rfl rfl rfl rfl rfl (fun _ _ => ops_alloc rfl zc_28 rfl) (fun _ _ => ops_alloc rfl zc_41 rfl) ?_
  refine ch_o (ops_callx rfl rfl ci_15 (args1 (lk rfl)) (fun w1 hw => toAcc_c a _ _ _ _ w1 (hs.hp hw rfl) hl) (fun _ => rfl)) ?_
  rintro _ _ ⟨⟨gb87, gc87, gs87⟩, ⟨hgl87, hgc87⟩, rfl, rfl⟩
  refine ch_o (ops_call rfl rfl ci_25 (args1 (lk rfl)) (fun w1 hw => toQuota_c q w1)) ?_
  rintro _ _ ⟨rfl, rfl⟩
  refine ch_o (ops_callx rfl rfl ci_29 (args3 (lk rfl) (lk rfl) (lk rfl)) (fun w1 hw => Request_c a _ _ _ _ q n w1 (Sl.own hw (.head _)) hl) (fun _ => rfl)) ?_
  rintro _ _ ⟨⟨gb91, gc91, gs91⟩, ⟨hgl91, hgc91⟩, rfl, rfl⟩
  refine ch_q rfl gd_none rfl (val_move (lk rfl)) ?_
  refine ch_q rfl gd_none rfl (val_extract (lk rfl) rfl) ?_
  refine ch_q rfl gd_none rfl (val_extract (lk rfl) rfl) ?_
  refine ch_nil ?_
  rintro _ _ ⟨b8, rfl, rfl⟩
  rintro _ _ ⟨b9, rfl, rfl⟩
  refine wa_only 11 (by kernel_rfl) rfl ?_
  refine wl_storeB 1 rfl (lk rfl) (lk rfl) ag_28 rfl rfl ?_
  refine wl_nil (px_qn (fun _ h => h.dropN 4 rfl) ?_)
  refine wa_only 12 (by kernel_rfl) rfl ?_
  refine wl_storeB 0 rfl (lk rfl) (lk rfl) ag_41 rfl rfl ?_
  refine wl_nil (px_qn (fun _ h => h.dropN 4 rfl) ?_)
  refine wa_done (by kernel_rfl) ?_
  refine px_then ?_
  refine wc_seq ?_
  refine wc_seq ?_
  refine wc_region ?_
  refine wl_v rfl (val_loadB (.tail _ (.head _)) (lk rfl) ag_28) ?_
  refine wl_v rfl (val_loadB (.tail _ (.tail _ (.tail _ (.tail _ (.tail _ (.tail _ (.tail _ (.tail _ (.tail _ (.tail _ (.tail _ (.head _)))))))))))) (lk rfl) ag_28) ?_
  refine wl_call gd_none rfl ci_17 (args2 (lk rfl) (lk rfl)) (fun hG w1 hw => eqAcc_c (reqA a q n) (reqA a q n) _ _ _ _ _ _ _ _ w1 (Sl.own hw (.tail _ (.tail _ (.head _)))) (Sl.own hw (.tail _ (.tail _ (.tail _ (.tail _ (.tail _ (.tail _ (.tail _ (.tail _ (.tail _ (.tail _ (.tail _ (.tail _ (.head _)))))))))))))) (by omega)) ?_
  refine wl_v rfl (val_not (lk rfl)) ?_
  refine wl_v rfl (val_move (lk rfl)) ?_
  refine wl_val (gd_f rfl rfl rfl) rfl (val_loadB (.head _) (lk rfl) ag_41) ?_
  refine wl_val (gd_f rfl rfl rfl) rfl (val_loadB (.tail _ (.tail _ (.tail _ (.tail _ (.tail _ (.tail _ (.tail _ (.tail _ (.tail _ (.tail _ (.head _))))))))))) (lk rfl) ag_41) ?_
  refine wl_call (gd_f rfl rfl rfl) rfl ci_27 (args2 (lkg rfl) (lkg rfl)) (fun hG w1 hw => eqQuota_c (reqQ a q n) (reqQ a q n) w1) ?_
  refine wl_val (gd_f rfl rfl rfl) rfl (val_not (lkg rfl)) ?_
  refine wl_v rfl (val_or (lk rfl) (lkg rfl)) ?_
  refine wl_nil ?_
  refine px_then ?_
  refine wc_cond (lk rfl) (fun hc6 => ?_) (fun hc6 => ?_)
  · refine wc_seq ?_
    refine wc_region ?_
    refine wl_v rfl (val_assign lkc) ?_
    refine wl_nil ?_
    refine px_then ?_
    refine wc_ret ?_
    refine px_then_ret ?_
    refine fin1 rfl (res_tmp rfl) (fun w1 hw => ?_)
    first | exact ⟨rfl, hw.drop rfl⟩ | (exfalso; revert hc6; simp; done) | (exfalso; revert hc6; simp; omega) | (exfalso; revert hc6; rw [Acc.eqb_refl]; simp; done) | (exfalso; revert hc6; rw [Acc.eqb_refl]; simp; omega) | (exfalso; revert hc6; rw [Quota.eqb_refl]; simp; done) | (exfalso; revert hc6; rw [Acc.eqb_refl, Quota.eqb_refl]; simp; done) | (exfalso; revert hc6; rw [Acc.eqb_refl, Quota.eqb_refl]; simp; omega) | (exfalso; have h9 := of_decide_eq_true hc6; omega)
  refine wc_skip ?_
  refine px_then ?_
  refine wc_seq ?_
  refine wc_region ?_
  refine wl_v rfl (val_assign lkc) ?_
  refine wl_nil ?_
  refine px_then ?_
  refine wc_seq ?_
  refine wc_region ?_
  refine wl_v rfl (val_loadB (.tail _ (.tail _ (.tail _ (.tail _ (.tail _ (.tail _ (.head _))))))) (lk rfl) ag_28) ?_
  refine wl_v rfl (val_move (lk rfl)) ?_
  refine wl_call gd_none rfl ci_19 (args2 (lk rfl) (lk rfl)) (fun hG w1 hw => heldAcc_c (reqA a q n) _ _ 0 _ 1 w1 (Sl.own hw (.tail _ (.tail _ (.tail _ (.tail _ (.tail _ (.tail _ (.tail _ (.head _))))))))) (by omega) (by decide)) ?_
  refine wl_v rfl (val_assign (lk rfl)) ?_
  refine wl_nil ?_
  refine px_then ?_
  refine wc_seq ?_
  refine wc_seq ?_
  refine wc_region ?_
  refine wl_v rfl (val_move (lk rfl)) ?_
  refine wl_v rfl (val_lss (lk rfl) lkc) ?_
  refine wl_nil ?_
  refine px_then ?_
  refine wc_cond (lk rfl) (fun hc7 => ?_) (fun hc7 => ?_)
  · refine wc_seq ?_
    refine wc_region ?_
    refine wl_v rfl (val_assign lkc) ?_
    refine wl_nil ?_
    refine px_then ?_
    refine wc_ret ?_
    refine px_then_ret ?_
    refine fin1 rfl (res_tmp rfl) (fun w1 hw => ?_)
    first | exact ⟨rfl, hw.drop rfl⟩ | (exfalso; revert hc7; simp; done) | (exfalso; revert hc7; simp; omega) | (exfalso; revert hc7; rw [Acc.eqb_refl]; simp; done) | (exfalso; revert hc7; rw [Acc.eqb_refl]; simp; omega) | (exfalso; revert hc7; rw [Quota.eqb_refl]; simp; done) | (exfalso; revert hc7; rw [Acc.eqb_refl, Quota.eqb_refl]; simp; done) | (exfalso; revert hc7; rw [Acc.eqb_refl, Quota.eqb_refl]; simp; omega) | (exfalso; have h9 := of_decide_eq_true hc7; omega)
  refine wc_skip ?_
  refine px_then ?_
  refine wc_seq ?_
  refine wc_seq ?_
  refine wc_region ?_
  refine wl_v rfl (val_move (lk rfl)) ?_
  refine wl_v rfl (val_move (lk rfl)) ?_
  refine wl_v rfl (val_neq (lk rfl) (lk rfl)) ?_
  refine wl_nil ?_
  refine px_then ?_
  refine wc_cond (lk rfl) (fun hc8 => ?_) (fun hc8 => ?_)
  · refine wc_seq ?_
    refine wc_region ?_
    refine wl_v rfl (val_assign lkc) ?_
    refine wl_nil ?_
    refine px_then ?_
    refine wc_ret ?_
    refine px_then_ret ?_
    refine fin1 rfl (res_tmp rfl) (fun w1 hw => ?_)
    first | exact ⟨rfl, hw.drop rfl⟩ | (exfalso; revert hc8; simp; done) | (exfalso; revert hc8; simp; omega) | (exfalso; revert hc8; rw [Acc.eqb_refl]; simp; done) | (exfalso; revert hc8; rw [Acc.eqb_refl]; simp; omega) | (exfalso; revert hc8; rw [Quota.eqb_refl]; simp; done) | (exfalso; revert hc8; rw [Acc.eqb_refl, Quota.eqb_refl]; simp; done) | (exfalso; revert hc8; rw [Acc.eqb_refl, Quota.eqb_refl]; simp; omega) | (exfalso; have h9 := of_decide_eq_true hc8; omega)
  refine wc_skip ?_
  refine px_then ?_
  refine wc_seq ?_
  refine wc_region ?_
  refine wl_v rfl (val_assign lkc) ?_
  refine wl_nil ?_
  refine px_then ?_
  refine wc_ret ?_
  refine fin1 rfl (res_tmp rfl) (fun w1 hw => ?_)
  first | exact ⟨rfl, hw.drop rfl⟩ | (exfalso; revert hc8; simp; done) | (exfalso; revert hc8; simp; omega) | (exfalso; revert hc8; rw [Acc.eqb_refl]; simp; done) | (exfalso; revert hc8; rw [Acc.eqb_refl]; simp; omega) | (exfalso; revert hc8; rw [Quota.eqb_refl]; simp; done) | (exfalso; revert hc8; rw [Acc.eqb_refl, Quota.eqb_refl]; simp; done) | (exfalso; revert hc8; rw [Acc.eqb_refl, Quota.eqb_refl]; simp; omega) | (exfalso; have h9 := of_decide_eq_true hc8; omega)

theorem law_CloseSession (a : Acc) (A : Option Addr) (b o c : Nat) (q : Quota) (w : World) (hs : Sl w A b o (flat encR a.res)) (hm : a.res.length ≤ 9223372036854775807) :
    Calls Try.prog 8 #[a.val A c, q.val] w fun e w' => e = .returned (.bool true) ∧ HP w [] w' := by
  refine calls_entry [] _ Try.func8 rfl Try.ntmps8 (HP.refl w) (env2 rfl) ?_
  refine wc_seq ?_
  refine wc_region ?_
  refine wl_box (lk rfl) rfl fun b1 => ?_
  refine wl_box (lk rfl) rfl fun b2 => ?_
  refine wl_v rfl (val_assign lkc) ?_
  refine wl_nil ?_
  refine px_then ?_
  refine wc_seq ?_
  refine wc_region ?_
  refine wl_v rfl (val_assign lkc) ?_
  refine wl_nil ?_
  refine px_then ?_
  refine wc_seq ?_
  refine wc_region ?_
  refine wl_v rfl (val_loadB (.tail _ (.head _)) (lk rfl) ag_24) ?_
  refine wl_v rfl (val_move (lk rfl)) ?_
  refine wl_call gd_none rfl ci_13 (args2 (lk rfl) (lk rfl)) (fun hG w1 hw => szAcc_c a _ _ _ w1 (by omega) hm) ?_
  refine wl_v rfl (val_assign (lk rfl)) ?_
  refine wl_nil ?_
  refine px_then ?_
  refine wc_seq ?_
  refine wc_seq ?_
  refine wc_region ?_
  refine wl_v rfl (val_move (lk rfl)) ?_
  refine wl_v rfl (val_lss (lk rfl) lkc) ?_
  refine wl_nil ?_
  refine px_then ?_
  refine wc_cond (lk rfl) (fun hc0 => ?_) (fun hc0 => ?_)
  · refine wc_seq ?_
    refine wc_region ?_
    refine wl_v rfl (val_assign lkc) ?_
    refine wl_nil ?_
    refine px_then ?_
    refine wc_ret ?_
    refine px_then_ret ?_
    refine fin1 rfl (res_tmp rfl) (fun w1 hw => ?_)
    first | exact ⟨rfl, hw.drop rfl⟩ | (exfalso; revert hc0; simp; done) | (exfalso; revert hc0; simp; omega) | (exfalso; revert hc0; rw [Acc.eqb_refl]; simp; done) | (exfalso; revert hc0; rw [Acc.eqb_refl]; simp; omega) | (exfalso; revert hc0; rw [Quota.eqb_refl]; simp; done) | (exfalso; revert hc0; rw [Acc.eqb_refl, Quota.eqb_refl]; simp; done) | (exfalso; revert hc0; rw [Acc.eqb_refl, Quota.eqb_refl]; simp; omega) | (exfalso; have h9 := of_decide_eq_true hc0; omega)
  have hl : a.res.length ≤ 1048576 := by have h9 := of_decide_eq_false hc0; unfold szN at h9; split at h9 <;> omega
  have hdl := clo_len a q
  refine wc_skip ?_
  refine px_then ?_
  refine wc_seq ?_
  refine wc_region_a0 7 mo_ rfl ?_
  refine wa_take 0 rfl (by kernel_rfl) (by kernel_rfl) (by kernel_rfl) (by kernel_rfl) (fun _ h => h.dropN 0 rfl) gd_none rfl (val_loadB (.tail _ (.head _)) (lk rfl) ag_24) ?_
  refine wa_take 2 rfl (by kernel_rfl) (by kernel_rfl) (by kernel_rfl) (by kernel_rfl) (fun _ h => h.dropN 0 rfl) gd_none rfl (val_loadB (.head _) (lk rfl) ag_40) ?_
  refine wa_chn1 [(false, 1, 19), (false, 3, 21), (false, 4, 22)] 5 6 4 [1, 3, 4, 5] (fun _ h => h.dropN 0 rfl) (by kernel_rfl) (by kernel_rfl) rfl rfl (fun _ _ => ops_alloc rfl zc_28 rfl) ?_
  refine ch_o (ops_callx rfl rfl ci_15 (args1 (lk rfl)) (fun w1 hw => toAcc_c a _ _ _ _ w1 (hs.hp hw rfl) hl) (fun _ => rfl)) ?_
  rintro _ _ ⟨⟨gb19, gc19, gs19⟩, ⟨hgl19, hgc19⟩, rfl, rfl⟩
  refine ch_o (ops_call rfl rfl ci_25 (args1 (lk rfl)) (fun w1 hw => toQuota_c q w1)) ?_
  rintro _ _ ⟨rfl, rfl⟩
  refine ch_o (ops_callx rfl rfl ci_30 (args2 (lk rfl) (lk rfl)) (fun w1 hw => sClose_c a _ _ _ _ q w1 (Sl.own hw (.head _)) hl (cap_le encR_len (by decide) hgl19)) (fun _ => rfl)) ?_
  rintro _ _ ⟨⟨gb22, gc22, gs22⟩, ⟨hgl22, hgc22⟩, rfl, rfl⟩
  refine ch_nil ?_
  rintro _ _ ⟨b3, rfl, rfl⟩
  refine wa_only 6 (by kernel_rfl) rfl ?_
  refine wl_storeB 0 rfl (lk rfl) (lk rfl) ag_28 rfl rfl ?_
  refine wl_nil (px_qn (fun _ h => h.dropN 3 rfl) ?_)
  refine wa_done (by kernel_rfl) ?_
  refine px_then ?_
  refine wc_seq ?_
  refine wc_region ?_
  refine wl_v rfl (val_loadB (.tail _ (.tail _ (.tail _ (.tail _ (.head _))))) (lk rfl) ag_24) ?_
  refine wl_callx rfl ci_15 (args1 (lk rfl)) (fun w1 hw => toAcc_c a _ _ _ _ w1 (hs.hp hw rfl) hl) (fun _ => rfl) ?_
  rintro ⟨gb24, gc24, gs24⟩ ⟨hgl24, hgc24⟩
  refine wl_alloc zc_28 rfl fun b4 => ?_
  refine wl_storeB 0 rfl (lk rfl) (lk rfl) ag_28 rfl rfl ?_
  refine wl_nil ?_
  refine px_then ?_
  refine wc_seq ?_
  refine wc_region_a0 6 mo_ rfl ?_
  refine wa_take 0 rfl (by kernel_rfl) (by kernel_rfl) (by kernel_rfl) (by kernel_rfl) (fun _ h => h.dropN 0 rfl) gd_none rfl (val_loadB (.head _) (lk rfl) ag_28) ?_
  refine wa_take 1 rfl (by kernel_rfl) (by kernel_rfl) (by kernel_rfl) (by kernel_rfl) (fun _ h => h.dropN 0 rfl) gd_none rfl (val_loadB (.tail _ (.tail _ (.tail _ (.tail _ (.tail _ (.head _)))))) (lk rfl) ag_40) ?_
  refine wa_chn1 [(false, 2, 27), (false, 3, 28)] 4 8 3 [2, 3, 4] (fun _ h => h.dropN 0 rfl) (by kernel_rfl) (by kernel_rfl) rfl rfl (fun _ _ => ops_alloc rfl zc_28 rfl) ?_
  refine ch_o (ops_call rfl rfl ci_25 (args1 (lk rfl)) (fun w1 hw => toQuota_c q w1)) ?_
  rintro _ _ ⟨rfl, rfl⟩
  refine ch_o (ops_callx rfl rfl ci_31 (args2 (lk rfl) (lk rfl)) (fun w1 hw => Close_c a _ _ _ _ q w1 (Sl.own hw (.tail _ (.head _))) hl) (fun _ => rfl)) ?_
  rintro _ _ ⟨⟨gb28, gc28, gs28⟩, ⟨hgl28, hgc28⟩, rfl, rfl⟩
  refine ch_nil ?_
  rintro _ _ ⟨b5, rfl, rfl⟩
  refine wa_only 5 (by kernel_rfl) rfl ?_
  refine wl_storeB 0 rfl (lk rfl) (lk rfl) ag_28 rfl rfl ?_
  refine wl_nil (px_qn (fun _ h => h.dropN 2 rfl) ?_)
  refine wa_done (by kernel_rfl) ?_
  refine px_then ?_
  refine wc_seq ?_
  refine wc_seq ?_
  refine wc_region ?_
  refine wl_v rfl (val_loadB (.head _) (lk rfl) ag_28) ?_
  refine wl_v rfl (val_loadB (.tail _ (.tail _ (.tail _ (.tail _ (.head _))))) (lk rfl) ag_28) ?_
  refine wl_call gd_none rfl ci_17 (args2 (lk rfl) (lk rfl)) (fun hG w1 hw => eqAcc_c (cloA a q) (cloA a q) _ _ _ _ _ _ _ _ w1 (Sl.own hw (.tail _ (.head _))) (Sl.own hw (.tail _ (.tail _ (.tail _ (.tail _ (.tail _ (.head _))))))) (by omega)) ?_
  refine wl_v rfl (val_not (lk rfl)) ?_
  refine wl_nil ?_
  refine px_then ?_
  refine wc_cond (lk rfl) (fun hc1 => ?_) (fun hc1 => ?_)
  · refine wc_seq ?_
    refine wc_region ?_
    refine wl_v rfl (val_assign lkc) ?_
    refine wl_nil ?_
    refine px_then ?_
    refine wc_ret ?_
    refine px_then_ret ?_
    refine fin1 rfl (res_tmp rfl) (fun w1 hw => ?_)
    first | exact ⟨rfl, hw.drop rfl⟩ | (exfalso; revert hc1; simp; done) | (exfalso; revert hc1; simp; omega) | (exfalso; revert hc1; rw [Acc.eqb_refl]; simp; done) | (exfalso; revert hc1; rw [Acc.eqb_refl]; simp; omega) | (exfalso; revert hc1; rw [Quota.eqb_refl]; simp; done) | (exfalso; revert hc1; rw [Acc.eqb_refl, Quota.eqb_refl]; simp; done) | (exfalso; revert hc1; rw [Acc.eqb_refl, Quota.eqb_refl]; simp; omega) | (exfalso; have h9 := of_decide_eq_true hc1; omega)
  refine wc_skip ?_
  refine px_then ?_
  refine wc_seq ?_
  refine wc_seq ?_
  refine wc_region_a0 5 mo_ rfl ?_
  refine wa_take 0 rfl (by kernel_rfl) (by kernel_rfl) (by kernel_rfl) (by kernel_rfl) (fun _ h => h.dropN 0 rfl) gd_none rfl (val_loadB (.tail _ (.tail _ (.head _))) (lk rfl) ag_28) ?_
  refine wa_take 1 rfl (by kernel_rfl) (by kernel_rfl) (by kernel_rfl) (by kernel_rfl) (fun _ h => h.dropN 0 rfl) gd_none rfl (val_loadB (.tail _ (.tail _ (.tail _ (.tail _ (.tail _ (.tail _ (.tail _ (.tail _ (.head _))))))))) (lk rfl) ag_24) ?_
  refine wa_only 2 (by kernel_rfl) rfl ?_
  refine wl_callx rfl ci_15 (args1 (lk rfl)) (fun w1 hw => toAcc_c a _ _ _ _ w1 (hs.hp hw rfl) hl) (fun _ => rfl) ?_
  rintro ⟨gb35, gc35, gs35⟩ ⟨hgl35, hgc35⟩
  refine wl_nil (px_qn (fun _ h => h.dropN 1 rfl) ?_)
  refine wa_only 3 (by kernel_rfl) rfl ?_
  refine wl_call gd_none rfl ci_17 (args2 (lk rfl) (lk rfl)) (fun hG w1 hw => eqAcc_c (a) (a) _ _ _ _ _ _ _ _ w1 (Sl.own hw (.tail _ (.tail _ (.tail _ (.tail _ (.head _)))))) (Sl.own hw (.head _)) (by omega)) ?_
  refine wl_nil (px_qn (fun _ h => h.dropN 1 rfl) ?_)
  refine wa_take 4 rfl (by kernel_rfl) (by kernel_rfl) (by kernel_rfl) (by kernel_rfl) (fun _ h => h.dropN 1 rfl) gd_none rfl (val_not (lk rfl)) ?_
  refine wa_done (by kernel_rfl) ?_
  refine px_then ?_
  refine wc_cond (lk rfl) (fun hc2 => ?_) (fun hc2 => ?_)
  · refine wc_seq ?_
    refine wc_region ?_
    refine wl_v rfl (val_assign lkc) ?_
    refine wl_nil ?_
    refine px_then ?_
    refine wc_ret ?_
    refine px_then_ret ?_
    refine fin1 rfl (res_tmp rfl) (fun w1 hw => ?_)
    first | exact ⟨rfl, hw.drop rfl⟩ | (exfalso; revert hc2; simp; done) | (exfalso; revert hc2; simp; omega) | (exfalso; revert hc2; rw [Acc.eqb_refl]; simp; done) | (exfalso; revert hc2; rw [Acc.eqb_refl]; simp; omega) | (exfalso; revert hc2; rw [Quota.eqb_refl]; simp; done) | (exfalso; revert hc2; rw [Acc.eqb_refl, Quota.eqb_refl]; simp; done) | (exfalso; revert hc2; rw [Acc.eqb_refl, Quota.eqb_refl]; simp; omega) | (exfalso; have h9 := of_decide_eq_true hc2; omega)
  refine wc_skip ?_
  refine px_then ?_
  refine wc_seq ?_
  refine wc_region ?_
  refine wl_v rfl (val_assign lkc) ?_
  refine wl_nil ?_
  refine px_then ?_
  refine wc_seq ?_
  refine wc_region ?_
  refine wl_v rfl (val_loadB (.tail _ (.tail _ (.tail _ (.head _)))) (lk rfl) ag_28) ?_
  refine wl_v rfl (val_move (lk rfl)) ?_
  refine wl_callw 4 rfl ci_18 (args2 (lk rfl) (lk rfl)) rfl (fun w1 hw => markAcc_c (a) _ _ _ 1 _ w1 (fun _ => rfl) (hw.own _ (.tail _ (.tail _ (.tail _ (.tail _ (.head _)))))) (by omega) (by decide) (by rw [List.length_append, flat_len encR_len]; omega)) (fun _ => rfl) ?_
  rintro ⟨⟩ -
  refine wl_v rfl (val_assign (lk rfl)) ?_
  refine wl_nil ?_
  refine px_then ?_
  refine wc_seq ?_
  refine wc_seq ?_
  refine wc_region ?_
  refine wl_v rfl (val_move (lk rfl)) ?_
  refine wl_v rfl (val_lss (lk rfl) lkc) ?_
  refine wl_v rfl (val_move (lk rfl)) ?_
  refine wl_val (gd_f rfl rfl rfl) rfl (val_loadB (.tail _ (.head _)) (lk rfl) ag_28) ?_
  refine wl_val (gd_f rfl rfl rfl) rfl (val_loadB (.tail _ (.tail _ (.tail _ (.tail _ (.tail _ (.head _)))))) (lk rfl) ag_28) ?_
  refine wl_call (gd_f rfl rfl rfl) rfl ci_17 (args2 (lkg rfl) (lkg rfl)) (fun hG w1 hw => eqAcc_c (cloA a q) (cloA a q) _ _ _ _ _ _ _ _ w1 (Sl.own hw (.tail _ (.tail _ (.head _)))) (Sl.own hw (.tail _ (.tail _ (.tail _ (.tail _ (.tail _ (.tail _ (.head _)))))))) (by omega)) ?_
  refine wl_val (gd_f rfl rfl rfl) rfl (val_not (lkg rfl)) ?_
  refine wl_v rfl (val_or (lk rfl) (lkg rfl)) ?_
  refine wl_nil ?_
  refine px_then ?_
  refine wc_cond (lk rfl) (fun hc3 => ?_) (fun hc3 => ?_)
  · refine wc_seq ?_
    refine wc_region ?_
    refine wl_v rfl (val_assign lkc) ?_
    refine wl_nil ?_
    refine px_then ?_
    refine wc_ret ?_
    refine px_then_ret ?_
    refine fin1 rfl (res_tmp rfl) (fun w1 hw => ?_)
    first | exact ⟨rfl, hw.drop rfl⟩ | (exfalso; revert hc3; simp; done) | (exfalso; revert hc3; simp; omega) | (exfalso; revert hc3; rw [Acc.eqb_refl]; simp; done) | (exfalso; revert hc3; rw [Acc.eqb_refl]; simp; omega) | (exfalso; revert hc3; rw [Quota.eqb_refl]; simp; done) | (exfalso; revert hc3; rw [Acc.eqb_refl, Quota.eqb_refl]; simp; done) | (exfalso; revert hc3; rw [Acc.eqb_refl, Quota.eqb_refl]; simp; omega) | (exfalso; have h9 := of_decide_eq_true hc3; omega)
  refine wc_skip ?_
  refine px_then ?_
  refine wc_seq ?_
  refine wc_region ?_
  refine wl_v rfl (val_assign lkc) ?_
  refine wl_nil ?_
  refine px_then ?_
  refine wc_seq ?_
  refine wc_region ?_
  refine wl_v rfl (val_loadB (.tail _ (.head _)) (lk rfl) ag_28) ?_
  refine wl_v rfl (val_move (lk rfl)) ?_
  refine wl_callw 2 rfl ci_18 (args2 (lk rfl) (lk rfl)) rfl (fun w1 hw => markAcc_c (cloA a q) _ _ _ 1 _ w1 (fun _ => rfl) (hw.own _ (.tail _ (.tail _ (.head _)))) (by omega) (by decide) (by rw [List.length_append, flat_len encR_len]; omega)) (fun _ => rfl) ?_
  rintro ⟨⟩ -
  refine wl_v rfl (val_assign (lk rfl)) ?_
  refine wl_nil ?_
  refine px_then ?_
  refine wc_seq ?_
  refine wc_region ?_
  refine wl_v rfl (val_assign lkc) ?_
  refine wl_nil ?_
  refine px_then ?_
  refine wc_seq ?_
  refine wc_region ?_
  refine wl_v rfl (val_loadB (.tail _ (.head _)) (lk rfl) ag_28) ?_
  refine wl_v rfl (val_move (lk rfl)) ?_
  refine wl_call gd_none rfl ci_19 (args2 (lk rfl) (lk rfl)) (fun hG w1 hw => heldAcc_c (cloA a q) _ _ 0 _ 1 w1 (Sl.own hw (.tail _ (.tail _ (.head _)))) (by omega) (by decide)) ?_
  refine wl_v rfl (val_assign (lk rfl)) ?_
  refine wl_nil ?_
  refine px_then ?_
  refine wc_seq ?_
  refine wc_seq ?_
  refine wc_region ?_
  refine wl_v rfl (val_move (lk rfl)) ?_
  refine wl_v rfl (val_lss (lk rfl) lkc) ?_
  refine wl_nil ?_
  refine px_then ?_
  refine wc_cond (lk rfl) (fun hc4 => ?_) (fun hc4 => ?_)
  · refine wc_seq ?_
    refine wc_region ?_
    refine wl_v rfl (val_assign lkc) ?_
    refine wl_nil ?_
    refine px_then ?_
    refine wc_ret ?_
    refine px_then_ret ?_
    refine fin1 rfl (res_tmp rfl) (fun w1 hw => ?_)
    first | exact ⟨rfl, hw.drop rfl⟩ | (exfalso; revert hc4; simp; done) | (exfalso; revert hc4; simp; omega) | (exfalso; revert hc4; rw [Acc.eqb_refl]; simp; done) | (exfalso; revert hc4; rw [Acc.eqb_refl]; simp; omega) | (exfalso; revert hc4; rw [Quota.eqb_refl]; simp; done) | (exfalso; revert hc4; rw [Acc.eqb_refl, Quota.eqb_refl]; simp; done) | (exfalso; revert hc4; rw [Acc.eqb_refl, Quota.eqb_refl]; simp; omega) | (exfalso; have h9 := of_decide_eq_true hc4; omega)
  refine wc_skip ?_
  refine px_then ?_
  refine wc_seq ?_
  refine wc_seq ?_
  refine wc_region ?_
  refine wl_v rfl (val_move (lk rfl)) ?_
  refine wl_v rfl (val_move (lk rfl)) ?_
  refine wl_v rfl (val_neq (lk rfl) (lk rfl)) ?_
  refine wl_nil ?_
  refine px_then ?_
  refine wc_cond (lk rfl) (fun hc5 => ?_) (fun hc5 => ?_)
  · refine wc_seq ?_
    refine wc_region ?_
    refine wl_v rfl (val_assign lkc) ?_
    refine wl_nil ?_
    refine px_then ?_
    refine wc_ret ?_
    refine px_then_ret ?_
    refine fin1 rfl (res_tmp rfl) (fun w1 hw => ?_)
    first | exact ⟨rfl, hw.drop rfl⟩ | (exfalso; revert hc5; simp; done) | (exfalso; revert hc5; simp; omega) | (exfalso; revert hc5; rw [Acc.eqb_refl]; simp; done) | (exfalso; revert hc5; rw [Acc.eqb_refl]; simp; omega) | (exfalso; revert hc5; rw [Quota.eqb_refl]; simp; done) | (exfalso; revert hc5; rw [Acc.eqb_refl, Quota.eqb_refl]; simp; done) | (exfalso; revert hc5; rw [Acc.eqb_refl, Quota.eqb_refl]; simp; omega) | (exfalso; have h9 := of_decide_eq_true hc5; omega)
  refine wc_skip ?_
  refine px_then ?_
  refine wc_seq ?_
  refine wc_region_a0 7 mo_ rfl ?_
  refine wa_take 0 rfl (by kernel_rfl) (by kernel_rfl) (by kernel_rfl) (by kernel_rfl) (fun _ h => h.dropN 0 rfl) gd_none rfl (val_loadB (.tail _ (.tail _ (.tail _ (.tail _ (.tail _ (.tail _ (.tail _ (.tail _ (.tail _ (.head _)))))))))) (lk rfl) ag_24) ?_
  refine wa_take 2 rfl (by kernel_rfl) (by kernel_rfl) (by kernel_rfl) (by kernel_rfl) (fun _ h => h.dropN 0 rfl) gd_none rfl (val_loadB (.tail _ (.tail _ (.tail _ (.tail _ (.tail _ (.tail _ (.tail _ (.tail _ (.head _))))))))) (lk rfl) ag_40) ?_
  refine wa_chn1 [(false, 1, 61), (false, 3, 63), (false, 4, 64)] 5 12 4 [1, 3, 4, 5] (fun _ h => h.dropN 0 rfl) (by kernel_rfl) (by kernel_rfl) rfl rfl (fun _ _ => ops_alloc rfl zc_28 rfl) ?_
  refine ch_o (ops_callx rfl rfl ci_15 (args1 (lk rfl)) (fun w1 hw => toAcc_c a _ _ _ _ w1 (hs.hp hw rfl) hl) (fun _ => rfl)) ?_
  rintro _ _ ⟨⟨gb61, gc61, gs61⟩, ⟨hgl61, hgc61⟩, rfl, rfl⟩
  refine ch_o (ops_call rfl rfl ci_25 (args1 (lk rfl)) (fun w1 hw => toQuota_c q w1)) ?_
  rintro _ _ ⟨rfl, rfl⟩
  refine ch_o (ops_callx rfl rfl ci_31 (args2 (lk rfl) (lk rfl)) (fun w1 hw => Close_c a _ _ _ _ q w1 (Sl.own hw (.head _)) hl) (fun _ => rfl)) ?_
  rintro _ _ ⟨⟨gb64, gc64, gs64⟩, ⟨hgl64, hgc64⟩, rfl, rfl⟩
  refine ch_nil ?_
  rintro _ _ ⟨b6, rfl, rfl⟩
  refine wa_only 6 (by kernel_rfl) rfl ?_
  refine wl_storeB 0 rfl (lk rfl) (lk rfl) ag_28 rfl rfl ?_
  refine wl_nil (px_qn (fun _ h => h.dropN 3 rfl) ?_)
  refine wa_done (by kernel_rfl) ?_
  refine px_then ?_
  refine wc_seq ?_
  refine wc_seq ?_
  refine wc_region ?_
  refine wl_v rfl (val_loadB (.head _) (lk rfl) ag_28) ?_
  refine wl_v rfl (val_loadB (.tail _ (.tail _ (.tail _ (.tail _ (.tail _ (.tail _ (.tail _ (.tail _ (.head _))))))))) (lk rfl) ag_28) ?_
  refine wl_call gd_none rfl ci_17 (args2 (lk rfl) (lk rfl)) (fun hG w1 hw => eqAcc_c (cloA a q) (cloA a q) _ _ _ _ _ _ _ _ w1 (Sl.own hw (.tail _ (.head _))) (Sl.own hw (.tail _ (.tail _ (.tail _ (.tail _ (.tail _ (.tail _ (.tail _ (.tail _ (.tail _ (.head _))))))))))) (by omega)) ?_
  refine wl_v rfl (val_not (lk rfl)) ?_
  refine wl_nil ?_
  refine px_then ?_
  refine wc_cond (lk rfl) (fun hc6 => ?_) (fun hc6 => ?_)
  · refine wc_seq ?_
    refine wc_region ?_
    refine wl_v rfl (val_assign lkc) ?_
    refine wl_nil ?_
    refine px_then ?_
    refine wc_ret ?_
    refine px_then_ret ?_
    refine fin1 rfl (res_tmp rfl) (fun w1 hw => ?_)
    first | exact ⟨rfl, hw.drop rfl⟩ | (exfalso; revert hc6; simp; done) | (exfalso; revert hc6; simp; omega) | (exfalso; revert hc6; rw [Acc.eqb_refl]; simp; done) | (exfalso; revert hc6; rw [Acc.eqb_refl]; simp; omega) | (exfalso; revert hc6; rw [Quota.eqb_refl]; simp; done) | (exfalso; revert hc6; rw [Acc.eqb_refl, Quota.eqb_refl]; simp; done) | (exfalso; revert hc6; rw [Acc.eqb_refl, Quota.eqb_refl]; simp; omega) | (exfalso; have h9 := of_decide_eq_true hc6; omega)
  refine wc_skip ?_
  refine px_then ?_
  refine wc_seq ?_
  refine wc_region ?_
  refine wl_v rfl (val_assign lkc) ?_
  refine wl_nil ?_
  refine px_then ?_
  refine wc_seq ?_
  refine wc_region ?_
  refine wl_v rfl (val_loadB (.tail _ (.tail _ (.tail _ (.tail _ (.head _))))) (lk rfl) ag_28) ?_
  refine wl_v rfl (val_move (lk rfl)) ?_
  refine wl_call gd_none rfl ci_19 (args2 (lk rfl) (lk rfl)) (fun hG w1 hw => heldAcc_c (cloA a q) _ _ 0 _ 1 w1 (Sl.own hw (.tail _ (.tail _ (.tail _ (.tail _ (.tail _ (.head _))))))) (by omega) (by decide)) ?_
  refine wl_v rfl (val_assign (lk rfl)) ?_
  refine wl_nil ?_
  refine px_then ?_
  refine wc_seq ?_
  refine wc_seq ?_
  refine wc_region ?_
  refine wl_v rfl (val_move (lk rfl)) ?_
  refine wl_v rfl (val_lss (lk rfl) lkc) ?_
  refine wl_nil ?_
  refine px_then ?_
  refine wc_cond (lk rfl) (fun hc7 => ?_) (fun hc7 => ?_)
  · refine wc_seq ?_
    refine wc_region ?_
    refine wl_v rfl (val_assign lkc) ?_
    refine wl_nil ?_
    refine px_then ?_
    refine wc_ret ?_
    refine px_then_ret ?_
    refine fin1 rfl (res_tmp rfl) (fun w1 hw => ?_)
    first | exact ⟨rfl, hw.drop rfl⟩ | (exfalso; revert hc7; simp; done) | (exfalso; revert hc7; simp; omega) | (exfalso; revert hc7; rw [Acc.eqb_refl]; simp; done) | (exfalso; revert hc7; rw [Acc.eqb_refl]; simp; omega) | (exfalso; revert hc7; rw [Quota.eqb_refl]; simp; done) | (exfalso; revert hc7; rw [Acc.eqb_refl, Quota.eqb_refl]; simp; done) | (exfalso; revert hc7; rw [Acc.eqb_refl, Quota.eqb_refl]; simp; omega) | (exfalso; have h9 := of_decide_eq_true hc7; omega)
  refine wc_skip ?_
  refine px_then ?_
  refine wc_seq ?_
  refine wc_seq ?_
  refine wc_region ?_
  refine wl_v rfl (val_move (lk rfl)) ?_
  refine wl_v rfl (val_move (lk rfl)) ?_
  refine wl_v rfl (val_neq (lk rfl) (lk rfl)) ?_
  refine wl_nil ?_
  refine px_then ?_
  refine wc_cond (lk rfl) (fun hc8 => ?_) (fun hc8 => ?_)
  · refine wc_seq ?_
    refine wc_region ?_
    refine wl_v rfl (val_assign lkc) ?_
    refine wl_nil ?_
    refine px_then ?_
    refine wc_ret ?_
    refine px_then_ret ?_
    refine fin1 rfl (res_tmp rfl) (fun w1 hw => ?_)
    first | exact ⟨rfl, hw.drop rfl⟩ | (exfalso; revert hc8; simp; done) | (exfalso; revert hc8; simp; omega) | (exfalso; revert hc8; rw [Acc.eqb_refl]; simp; done) | (exfalso; revert hc8; rw [Acc.eqb_refl]; simp; omega) | (exfalso; revert hc8; rw [Quota.eqb_refl]; simp; done) | (exfalso; revert hc8; rw [Acc.eqb_refl, Quota.eqb_refl]; simp; done) | (exfalso; revert hc8; rw [Acc.eqb_refl, Quota.eqb_refl]; simp; omega) | (exfalso; have h9 := of_decide_eq_true hc8; omega)
  refine wc_skip ?_
  refine px_then ?_
  refine wc_seq ?_
  refine wc_region ?_
  refine wl_v rfl (val_assign lkc) ?_
  refine wl_nil ?_
  refine px_then ?_
  refine wc_ret ?_
  refine fin1 rfl (res_tmp rfl) (fun w1 hw => ?_)
  first | exact ⟨rfl, hw.drop rfl⟩ | (exfalso; revert hc8; simp; done) | (exfalso; revert hc8; simp; omega) | (exfalso; revert hc8; rw [Acc.eqb_refl]; simp; done) | (exfalso; revert hc8; rw [Acc.eqb_refl]; simp; omega) | (exfalso; revert hc8; rw [Quota.eqb_refl]; simp; done) | (exfalso; revert hc8; rw [Acc.eqb_refl, Quota.eqb_refl]; simp; done) | (exfalso; revert hc8; rw [Acc.eqb_refl, Quota.eqb_refl]; simp; omega) | (exfalso; have h9 := of_decide_eq_true hc8; omega)

end Go.Proofs.Ytdiojflamjppmaa
