/- The law on deregistering: walked. -/
import Derived.Test.YtmjpiihopgckpaaSxO
namespace Go.Proofs.Ytmjpiihopgckpaa
open Go.RowKit

theorem law_Deregister (rs : List Reg) (A : Option Addr) (b o c : Nat) (p : Int × Int) (net : Int) (w : World) (hs : Sl w A b o (flat encW rs)) (hm : rs.length ≤ 9223372036854775807) :
    Calls Try.prog 9 #[.slice A rs.length c, .agg (recV enc2 p).toArray, .int .i64 net] w fun e w' => e = .returned (.bool true) ∧ HP w [] w' := by
  refine calls_entry [] _ Try.func9 rfl Try.ntmps9 (HP.refl w) (env3 rfl) ?_
  refine wc_seq ?_
  refine wc_region ?_
  refine wl_box (lk rfl) rfl fun b1 => ?_
  refine wl_v rfl (val_assign lkc) ?_
  refine wl_nil ?_
  refine px_then ?_
  refine wc_seq ?_
  refine wc_region ?_
  refine wl_v rfl (val_assign lkc) ?_
  refine wl_nil ?_
  refine px_then ?_
  refine wc_seq ?_
  refine wc_region ?_
  refine wl_v rfl (val_move (lk rfl)) ?_
  refine wl_v rfl (val_move (lk rfl)) ?_
  refine wl_call gd_none rfl ci_12 (args2 (lk rfl) (lk rfl)) (fun hG w1 hw => szRegistrationS_c _ _ _ _ w1 (by omega) (by omega)) ?_
  refine wl_v rfl (val_assign (lk rfl)) ?_
  refine wl_nil ?_
  refine px_then ?_
  refine wc_seq ?_
  refine wc_seq ?_
  refine wc_region ?_
  refine wl_v rfl (val_move (lk rfl)) ?_
  refine wl_v rfl (val_lss (lk rfl) lkc) ?_
  refine wl_nil ?_
  refine px_then ?_
  refine wc_cond (lk rfl) (fun hc0 => ?_) (fun hc0 => ?_)
  · refine wc_seq ?_
    refine wc_region ?_
    refine wl_v rfl (val_assign lkc) ?_
    refine wl_nil ?_
    refine px_then ?_
    refine wc_ret ?_
    refine px_then_ret ?_
    refine fin1 rfl (res_tmp rfl) (fun w1 hw => ?_)
    first | exact ⟨rfl, hw.drop rfl⟩ | (exfalso; revert hc0; simp; done) | (exfalso; revert hc0; simp; omega) | (exfalso; revert hc0; rw [eqRows_refl eqW_refl]; simp; done) | (exfalso; revert hc0; rw [eqRows_refl eqW_refl]; simp; omega) | (exfalso; revert hc0; rw [eq2_refl]; simp; done) | (exfalso; revert hc0; simp [eq2]; done) | (exfalso; have h9 := of_decide_eq_true hc0; omega)
  have hl : rs.length ≤ 1048576 := by have h9 := of_decide_eq_false hc0; unfold szN at h9; split at h9 <;> omega
  have hdl := dereg_len rs p net
  refine wc_skip ?_
  refine px_then ?_
  refine wc_seq ?_
  refine wc_region_a0 7 mo_ rfl ?_
  refine wa_take 0 rfl (by kernel_rfl) (by kernel_rfl) (by kernel_rfl) (by kernel_rfl) (fun _ h => h.dropN 0 rfl) gd_none rfl (val_move (lk rfl)) ?_
  refine wa_take 2 rfl (by kernel_rfl) (by kernel_rfl) (by kernel_rfl) (by kernel_rfl) (fun _ h => h.dropN 0 rfl) gd_none rfl (val_loadB (.head _) (lk rfl) ag_24) ?_
  refine wa_take 4 rfl (by kernel_rfl) (by kernel_rfl) (by kernel_rfl) (by kernel_rfl) (fun _ h => h.dropN 0 rfl) gd_none rfl (val_move (lk rfl)) ?_
  refine wa_only 1 (by kernel_rfl) rfl ?_
  refine wl_callx rfl ci_14 (args1 (lk rfl)) (fun w1 hw => toRegistrationS_c _ _ _ _ _ w1 (hs.hp hw rfl) (by omega)) (fun _ => rfl) ?_
  rintro ⟨gb21, gc21, gs21⟩ ⟨hgl21, hgc21⟩
  refine wl_nil (px_qn (fun _ h => h.dropN 1 rfl) ?_)
  refine wa_only 3 (by kernel_rfl) rfl ?_
  refine wl_call gd_none rfl ci_15 (args1 (lk rfl)) (fun hG w1 hw => toSubscriberID_c p w1) ?_
  refine wl_nil (px_qn (fun _ h => h.dropN 1 rfl) ?_)
  refine wa_only 5 (by kernel_rfl) rfl ?_
  refine wl_callx rfl ci_30 (args3 (lk rfl) (lk rfl) (lk rfl)) (fun w1 hw => sDereg_c rs _ _ _ _ p net w1 (Sl.own hw (.head _)) (by omega) (cap_le encW_len (by decide) hgl21)) (fun _ => rfl) ?_
  rintro ⟨gb25, gc25, gs25⟩ ⟨hgl25, hgc25⟩
  refine wl_nil (px_qn (fun _ h => h.dropN 2 rfl) ?_)
  refine wa_take 6 rfl (by kernel_rfl) (by kernel_rfl) (by kernel_rfl) (by kernel_rfl) (fun _ h => h.dropN 2 rfl) gd_none rfl (val_assign (lk rfl)) ?_
  refine wa_done (by kernel_rfl) ?_
  refine px_then ?_
  refine wc_seq ?_
  refine wc_region ?_
  refine wl_v rfl (val_move (lk rfl)) ?_
  refine wl_callx rfl ci_14 (args1 (lk rfl)) (fun w1 hw => toRegistrationS_c _ _ _ _ _ w1 (hs.hp hw rfl) (by omega)) (fun _ => rfl) ?_
  rintro ⟨gb27, gc27, gs27⟩ ⟨hgl27, hgc27⟩
  refine wl_v rfl (val_assign (lk rfl)) ?_
  refine wl_nil ?_
  refine px_then ?_
  refine wc_seq ?_
  refine wc_region ?_
  refine wl_v rfl (val_move (lk rfl)) ?_
  refine wl_v rfl (val_loadB (.tail _ (.tail _ (.tail _ (.head _)))) (lk rfl) ag_24) ?_
  refine wl_call gd_none rfl ci_15 (args1 (lk rfl)) (fun hG w1 hw => toSubscriberID_c p w1) ?_
  refine wl_v rfl (val_move (lk rfl)) ?_
  refine wl_callx rfl ci_31 (args3 (lk rfl) (lk rfl) (lk rfl)) (fun w1 hw => Dereg_c rs _ _ _ _ p net w1 (Sl.own hw (.head _)) (by omega) (cap_le encW_len (by decide) hgl27)) (fun _ => rfl) ?_
  rintro ⟨gb32, gc32, gs32⟩ ⟨hgl32, hgc32⟩
  refine wl_v rfl (val_assign (lk rfl)) ?_
  refine wl_nil ?_
  refine px_then ?_
  refine wc_seq ?_
  refine wc_seq ?_
  refine wc_region ?_
  refine wl_v rfl (val_move (lk rfl)) ?_
  refine wl_v rfl (val_move (lk rfl)) ?_
  refine wl_call gd_none rfl ci_17 (args2 (lk rfl) (lk rfl)) (fun hG w1 hw => eqRegistrationS_c (dereg rs p net) (dereg rs p net) _ _ _ _ _ _ _ _ w1 (Sl.own hw (.head _)) (Sl.own hw (.tail _ (.tail _ (.head _)))) (by omega)) ?_
  refine wl_v rfl (val_not (lk rfl)) ?_
  refine wl_nil ?_
  refine px_then ?_
  refine wc_cond (lk rfl) (fun hc1 => ?_) (fun hc1 => ?_)
  · refine wc_seq ?_
    refine wc_region ?_
    refine wl_v rfl (val_assign lkc) ?_
    refine wl_nil ?_
    refine px_then ?_
    refine wc_ret ?_
    refine px_then_ret ?_
    refine fin1 rfl (res_tmp rfl) (fun w1 hw => ?_)
    first | exact ⟨rfl, hw.drop rfl⟩ | (exfalso; revert hc1; simp; done) | (exfalso; revert hc1; simp; omega) | (exfalso; revert hc1; rw [eqRows_refl eqW_refl]; simp; done) | (exfalso; revert hc1; rw [eqRows_refl eqW_refl]; simp; omega) | (exfalso; revert hc1; rw [eq2_refl]; simp; done) | (exfalso; revert hc1; simp [eq2]; done) | (exfalso; have h9 := of_decide_eq_true hc1; omega)
  refine wc_skip ?_
  refine px_then ?_
  refine wc_seq ?_
  refine wc_seq ?_
  refine wc_region ?_
  refine wl_v rfl (val_move (lk rfl)) ?_
  refine wl_v rfl (val_move (lk rfl)) ?_
  refine wl_callx rfl ci_14 (args1 (lk rfl)) (fun w1 hw => toRegistrationS_c _ _ _ _ _ w1 (hs.hp hw rfl) (by omega)) (fun _ => rfl) ?_
  rintro ⟨gb39, gc39, gs39⟩ ⟨hgl39, hgc39⟩
  refine wl_call gd_none rfl ci_17 (args2 (lk rfl) (lk rfl)) (fun hG w1 hw => eqRegistrationS_c (rs) (rs) _ _ _ _ _ _ _ _ w1 (Sl.own hw (.tail _ (.tail _ (.head _)))) (Sl.own hw (.head _)) (by omega)) ?_
  refine wl_v rfl (val_not (lk rfl)) ?_
  refine wl_nil ?_
  refine px_then ?_
  refine wc_cond (lk rfl) (fun hc2 => ?_) (fun hc2 => ?_)
  · refine wc_seq ?_
    refine wc_region ?_
    refine wl_v rfl (val_assign lkc) ?_
    refine wl_nil ?_
    refine px_then ?_
    refine wc_ret ?_
    refine px_then_ret ?_
    refine fin1 rfl (res_tmp rfl) (fun w1 hw => ?_)
    first | exact ⟨rfl, hw.drop rfl⟩ | (exfalso; revert hc2; simp; done) | (exfalso; revert hc2; simp; omega) | (exfalso; revert hc2; rw [eqRows_refl eqW_refl]; simp; done) | (exfalso; revert hc2; rw [eqRows_refl eqW_refl]; simp; omega) | (exfalso; revert hc2; rw [eq2_refl]; simp; done) | (exfalso; revert hc2; simp [eq2]; done) | (exfalso; have h9 := of_decide_eq_true hc2; omega)
  refine wc_skip ?_
  refine px_then ?_
  refine wc_seq ?_
  refine wc_region ?_
  refine wl_v rfl (val_assign lkc) ?_
  refine wl_nil ?_
  refine px_then ?_
  refine wc_seq ?_
  refine wc_region ?_
  refine wl_v rfl (val_move (lk rfl)) ?_
  refine wl_v rfl (val_move (lk rfl)) ?_
  refine wl_callw 2 rfl ci_32 (args2 (lk rfl) (lk rfl)) rfl (fun w1 hw => markRegistrationS_c _ _ _ _ (1) _ w1 (fun _ => rfl) (hw.own _ (.tail _ (.tail _ (.head _)))) (by omega) (by omega) (by rw [List.length_append, flat_len encW_len]; omega)) (fun _ => rfl) ?_
  rintro ⟨⟩ -
  refine wl_v rfl (val_assign (lk rfl)) ?_
  refine wl_nil ?_
  refine px_then ?_
  refine wc_seq ?_
  refine wc_seq ?_
  refine wc_region ?_
  refine wl_v rfl (val_move (lk rfl)) ?_
  refine wl_v rfl (val_lss (lk rfl) lkc) ?_
  refine wl_v rfl (val_move (lk rfl)) ?_
  refine wl_val (gd_f rfl rfl rfl) rfl (val_move (lk rfl)) ?_
  refine wl_val (gd_f rfl rfl rfl) rfl (val_move (lk rfl)) ?_
  refine wl_call (gd_f rfl rfl rfl) rfl ci_17 (args2 (lkg rfl) (lkg rfl)) (fun hG w1 hw => eqRegistrationS_c (dereg rs p net) (dereg rs p net) _ _ _ _ _ _ _ _ w1 (Sl.own hw (.tail _ (.head _))) (Sl.own hw (.tail _ (.tail _ (.tail _ (.head _))))) (by omega)) ?_
  refine wl_val (gd_f rfl rfl rfl) rfl (val_not (lkg rfl)) ?_
  refine wl_v rfl (val_or (lk rfl) (lkg rfl)) ?_
  refine wl_nil ?_
  refine px_then ?_
  refine wc_cond (lk rfl) (fun hc3 => ?_) (fun hc3 => ?_)
  · refine wc_seq ?_
    refine wc_region ?_
    refine wl_v rfl (val_assign lkc) ?_
    refine wl_nil ?_
    refine px_then ?_
    refine wc_ret ?_
    refine px_then_ret ?_
    refine fin1 rfl (res_tmp rfl) (fun w1 hw => ?_)
    first | exact ⟨rfl, hw.drop rfl⟩ | (exfalso; revert hc3; simp; done) | (exfalso; revert hc3; simp; omega) | (exfalso; revert hc3; rw [eqRows_refl eqW_refl]; simp; done) | (exfalso; revert hc3; rw [eqRows_refl eqW_refl]; simp; omega) | (exfalso; revert hc3; rw [eq2_refl]; simp; done) | (exfalso; revert hc3; simp [eq2]; done) | (exfalso; have h9 := of_decide_eq_true hc3; omega)
  refine wc_skip ?_
  refine px_then ?_
  refine wc_seq ?_
  refine wc_region ?_
  refine wl_v rfl (val_assign lkc) ?_
  refine wl_nil ?_
  refine px_then ?_
  refine wc_seq ?_
  refine wc_region ?_
  refine wl_v rfl (val_move (lk rfl)) ?_
  refine wl_v rfl (val_move (lk rfl)) ?_
  refine wl_callw 1 rfl ci_32 (args2 (lk rfl) (lk rfl)) rfl (fun w1 hw => markRegistrationS_c _ _ _ _ (1) _ w1 (fun _ => rfl) (hw.own _ (.tail _ (.head _))) (by omega) (by omega) (by rw [List.length_append, flat_len encW_len]; omega)) (fun _ => rfl) ?_
  rintro ⟨⟩ -
  refine wl_v rfl (val_assign (lk rfl)) ?_
  refine wl_nil ?_
  refine px_then ?_
  refine wc_seq ?_
  refine wc_region ?_
  refine wl_v rfl (val_assign lkc) ?_
  refine wl_nil ?_
  refine px_then ?_
  refine wc_seq ?_
  refine wc_region ?_
  refine wl_v rfl (val_move (lk rfl)) ?_
  refine wl_v rfl (val_move (lk rfl)) ?_
  refine wl_call gd_none rfl ci_33 (args2 (lk rfl) (lk rfl)) (fun hG w1 hw => heldRegistrationS_c _ _ 0 _ _ 1 w1 (Sl.own hw (.tail _ (.head _))) (by omega) (by decide)) ?_
  refine wl_v rfl (val_assign (lk rfl)) ?_
  refine wl_nil ?_
  refine px_then ?_
  refine wc_seq ?_
  refine wc_seq ?_
  refine wc_region ?_
  refine wl_v rfl (val_move (lk rfl)) ?_
  refine wl_v rfl (val_lss (lk rfl) lkc) ?_
  refine wl_nil ?_
  refine px_then ?_
  refine wc_cond (lk rfl) (fun hc4 => ?_) (fun hc4 => ?_)
  · refine wc_seq ?_
    refine wc_region ?_
    refine wl_v rfl (val_assign lkc) ?_
    refine wl_nil ?_
    refine px_then ?_
    refine wc_ret ?_
    refine px_then_ret ?_
    refine fin1 rfl (res_tmp rfl) (fun w1 hw => ?_)
    first | exact ⟨rfl, hw.drop rfl⟩ | (exfalso; revert hc4; simp; done) | (exfalso; revert hc4; simp; omega) | (exfalso; revert hc4; rw [eqRows_refl eqW_refl]; simp; done) | (exfalso; revert hc4; rw [eqRows_refl eqW_refl]; simp; omega) | (exfalso; revert hc4; rw [eq2_refl]; simp; done) | (exfalso; revert hc4; simp [eq2]; done) | (exfalso; have h9 := of_decide_eq_true hc4; omega)
  refine wc_skip ?_
  refine px_then ?_
  refine wc_seq ?_
  refine wc_seq ?_
  refine wc_region ?_
  refine wl_v rfl (val_move (lk rfl)) ?_
  refine wl_v rfl (val_move (lk rfl)) ?_
  refine wl_v rfl (val_neq (lk rfl) (lk rfl)) ?_
  refine wl_nil ?_
  refine px_then ?_
  refine wc_cond (lk rfl) (fun hc5 => ?_) (fun hc5 => ?_)
  · refine wc_seq ?_
    refine wc_region ?_
    refine wl_v rfl (val_assign lkc) ?_
    refine wl_nil ?_
    refine px_then ?_
    refine wc_ret ?_
    refine px_then_ret ?_
    refine fin1 rfl (res_tmp rfl) (fun w1 hw => ?_)
    first | exact ⟨rfl, hw.drop rfl⟩ | (exfalso; revert hc5; simp; done) | (exfalso; revert hc5; simp; omega) | (exfalso; revert hc5; rw [eqRows_refl eqW_refl]; simp; done) | (exfalso; revert hc5; rw [eqRows_refl eqW_refl]; simp; omega) | (exfalso; revert hc5; rw [eq2_refl]; simp; done) | (exfalso; revert hc5; simp [eq2]; done) | (exfalso; have h9 := of_decide_eq_true hc5; omega)
  refine wc_skip ?_
  refine px_then ?_
  refine wc_seq ?_
  refine wc_region_a0 7 mo_ rfl ?_
  refine wa_take 0 rfl (by kernel_rfl) (by kernel_rfl) (by kernel_rfl) (by kernel_rfl) (fun _ h => h.dropN 0 rfl) gd_none rfl (val_move (lk rfl)) ?_
  refine wa_take 2 rfl (by kernel_rfl) (by kernel_rfl) (by kernel_rfl) (by kernel_rfl) (fun _ h => h.dropN 0 rfl) gd_none rfl (val_loadB (.tail _ (.tail _ (.tail _ (.tail _ (.tail _ (.head _)))))) (lk rfl) ag_24) ?_
  refine wa_take 4 rfl (by kernel_rfl) (by kernel_rfl) (by kernel_rfl) (by kernel_rfl) (fun _ h => h.dropN 0 rfl) gd_none rfl (val_move (lk rfl)) ?_
  refine wa_only 1 (by kernel_rfl) rfl ?_
  refine wl_callx rfl ci_14 (args1 (lk rfl)) (fun w1 hw => toRegistrationS_c _ _ _ _ _ w1 (hs.hp hw rfl) (by omega)) (fun _ => rfl) ?_
  rintro ⟨gb65, gc65, gs65⟩ ⟨hgl65, hgc65⟩
  refine wl_nil (px_qn (fun _ h => h.dropN 1 rfl) ?_)
  refine wa_only 3 (by kernel_rfl) rfl ?_
  refine wl_call gd_none rfl ci_15 (args1 (lk rfl)) (fun hG w1 hw => toSubscriberID_c p w1) ?_
  refine wl_nil (px_qn (fun _ h => h.dropN 1 rfl) ?_)
  refine wa_only 5 (by kernel_rfl) rfl ?_
  refine wl_callx rfl ci_31 (args3 (lk rfl) (lk rfl) (lk rfl)) (fun w1 hw => Dereg_c rs _ _ _ _ p net w1 (Sl.own hw (.head _)) (by omega) (cap_le encW_len (by decide) hgl65)) (fun _ => rfl) ?_
  rintro ⟨gb69, gc69, gs69⟩ ⟨hgl69, hgc69⟩
  refine wl_nil (px_qn (fun _ h => h.dropN 2 rfl) ?_)
  refine wa_take 6 rfl (by kernel_rfl) (by kernel_rfl) (by kernel_rfl) (by kernel_rfl) (fun _ h => h.dropN 2 rfl) gd_none rfl (val_assign (lk rfl)) ?_
  refine wa_done (by kernel_rfl) ?_
  refine px_then ?_
  refine wc_seq ?_
  refine wc_seq ?_
  refine wc_region ?_
  refine wl_v rfl (val_move (lk rfl)) ?_
  refine wl_v rfl (val_move (lk rfl)) ?_
  refine wl_call gd_none rfl ci_17 (args2 (lk rfl) (lk rfl)) (fun hG w1 hw => eqRegistrationS_c (dereg rs p net) (dereg rs p net) _ _ _ _ _ _ _ _ w1 (Sl.own hw (.head _)) (Sl.own hw (.tail _ (.tail _ (.tail _ (.tail _ (.tail _ (.head _))))))) (by omega)) ?_
  refine wl_v rfl (val_not (lk rfl)) ?_
  refine wl_nil ?_
  refine px_then ?_
  refine wc_cond (lk rfl) (fun hc6 => ?_) (fun hc6 => ?_)
  · refine wc_seq ?_
    refine wc_region ?_
    refine wl_v rfl (val_assign lkc) ?_
    refine wl_nil ?_
    refine px_then ?_
    refine wc_ret ?_
    refine px_then_ret ?_
    refine fin1 rfl (res_tmp rfl) (fun w1 hw => ?_)
    first | exact ⟨rfl, hw.drop rfl⟩ | (exfalso; revert hc6; simp; done) | (exfalso; revert hc6; simp; omega) | (exfalso; revert hc6; rw [eqRows_refl eqW_refl]; simp; done) | (exfalso; revert hc6; rw [eqRows_refl eqW_refl]; simp; omega) | (exfalso; revert hc6; rw [eq2_refl]; simp; done) | (exfalso; revert hc6; simp [eq2]; done) | (exfalso; have h9 := of_decide_eq_true hc6; omega)
  refine wc_skip ?_
  refine px_then ?_
  refine wc_seq ?_
  refine wc_region ?_
  refine wl_v rfl (val_assign lkc) ?_
  refine wl_nil ?_
  refine px_then ?_
  refine wc_seq ?_
  refine wc_region ?_
  refine wl_v rfl (val_move (lk rfl)) ?_
  refine wl_v rfl (val_move (lk rfl)) ?_
  refine wl_call gd_none rfl ci_33 (args2 (lk rfl) (lk rfl)) (fun hG w1 hw => heldRegistrationS_c _ _ 0 _ _ 1 w1 (Sl.own hw (.tail _ (.tail _ (.tail _ (.head _))))) (by omega) (by decide)) ?_
  refine wl_v rfl (val_assign (lk rfl)) ?_
  refine wl_nil ?_
  refine px_then ?_
  refine wc_seq ?_
  refine wc_seq ?_
  refine wc_region ?_
  refine wl_v rfl (val_move (lk rfl)) ?_
  refine wl_v rfl (val_lss (lk rfl) lkc) ?_
  refine wl_nil ?_
  refine px_then ?_
  refine wc_cond (lk rfl) (fun hc7 => ?_) (fun hc7 => ?_)
  · refine wc_seq ?_
    refine wc_region ?_
    refine wl_v rfl (val_assign lkc) ?_
    refine wl_nil ?_
    refine px_then ?_
    refine wc_ret ?_
    refine px_then_ret ?_
    refine fin1 rfl (res_tmp rfl) (fun w1 hw => ?_)
    first | exact ⟨rfl, hw.drop rfl⟩ | (exfalso; revert hc7; simp; done) | (exfalso; revert hc7; simp; omega) | (exfalso; revert hc7; rw [eqRows_refl eqW_refl]; simp; done) | (exfalso; revert hc7; rw [eqRows_refl eqW_refl]; simp; omega) | (exfalso; revert hc7; rw [eq2_refl]; simp; done) | (exfalso; revert hc7; simp [eq2]; done) | (exfalso; have h9 := of_decide_eq_true hc7; omega)
  refine wc_skip ?_
  refine px_then ?_
  refine wc_seq ?_
  refine wc_seq ?_
  refine wc_region ?_
  refine wl_v rfl (val_move (lk rfl)) ?_
  refine wl_v rfl (val_move (lk rfl)) ?_
  refine wl_v rfl (val_neq (lk rfl) (lk rfl)) ?_
  refine wl_nil ?_
  refine px_then ?_
  refine wc_cond (lk rfl) (fun hc8 => ?_) (fun hc8 => ?_)
  · refine wc_seq ?_
    refine wc_region ?_
    refine wl_v rfl (val_assign lkc) ?_
    refine wl_nil ?_
    refine px_then ?_
    refine wc_ret ?_
    refine px_then_ret ?_
    refine fin1 rfl (res_tmp rfl) (fun w1 hw => ?_)
    first | exact ⟨rfl, hw.drop rfl⟩ | (exfalso; revert hc8; simp; done) | (exfalso; revert hc8; simp; omega) | (exfalso; revert hc8; rw [eqRows_refl eqW_refl]; simp; done) | (exfalso; revert hc8; rw [eqRows_refl eqW_refl]; simp; omega) | (exfalso; revert hc8; rw [eq2_refl]; simp; done) | (exfalso; revert hc8; simp [eq2]; done) | (exfalso; have h9 := of_decide_eq_true hc8; omega)
  refine wc_skip ?_
  refine px_then ?_
  refine wc_seq ?_
  refine wc_region ?_
  refine wl_v rfl (val_assign lkc) ?_
  refine wl_nil ?_
  refine px_then ?_
  refine wc_ret ?_
  refine fin1 rfl (res_tmp rfl) (fun w1 hw => ?_)
  first | exact ⟨rfl, hw.drop rfl⟩ | (exfalso; revert hc8; simp; done) | (exfalso; revert hc8; simp; omega) | (exfalso; revert hc8; rw [eqRows_refl eqW_refl]; simp; done) | (exfalso; revert hc8; rw [eqRows_refl eqW_refl]; simp; omega) | (exfalso; revert hc8; rw [eq2_refl]; simp; done) | (exfalso; revert hc8; simp [eq2]; done) | (exfalso; have h9 := of_decide_eq_true hc8; omega)

end Go.Proofs.Ytmjpiihopgckpaa
