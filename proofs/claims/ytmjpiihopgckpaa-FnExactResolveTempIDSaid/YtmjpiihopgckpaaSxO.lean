/- The laws on registrations that only read: walked. -/
import Derived.Test.YtmjpiihopgckpaaSxN
namespace Go.Proofs.Ytmjpiihopgckpaa
open Go.RowKit

theorem law_FindRegistration (rs : List Reg) (A : Option Addr) (b o c : Nat) (p : Int × Int) (w : World) (hs : Sl w A b o (flat encW rs)) (hm : rs.length ≤ 9223372036854775807) :
    Calls Try.prog 3 #[.slice A rs.length c, .agg (recV enc2 p).toArray] w fun e w' => e = .returned (.bool true) ∧ HP w [] w' := by
  refine calls_entry [] _ Try.func3 rfl Try.ntmps3 (HP.refl w) (env2 rfl) ?_
  refine wc_seq ?_
  refine wc_region ?_
  refine wl_box (lk rfl) rfl fun b1 => ?_
  refine wl_v rfl (val_assign lkc) ?_
  refine wl_nil ?_
  refine px_then ?_
  refine wc_seq ?_
  refine wc_region ?_
  refine wl_v rfl (val_assign lkc) ?_
  refine wl_nil ?_
  refine px_then ?_
  refine wc_seq ?_
  refine wc_region ?_
  refine wl_v rfl (val_move (lk rfl)) ?_
  refine wl_v rfl (val_move (lk rfl)) ?_
  refine wl_call gd_none rfl ci_12 (args2 (lk rfl) (lk rfl)) (fun hG w1 hw => szRegistrationS_c _ _ _ _ w1 (by omega) (by omega)) ?_
  refine wl_v rfl (val_assign (lk rfl)) ?_
  refine wl_nil ?_
  refine px_then ?_
  refine wc_seq ?_
  refine wc_seq ?_
  refine wc_region ?_
  refine wl_v rfl (val_move (lk rfl)) ?_
  refine wl_v rfl (val_lss (lk rfl) lkc) ?_
  refine wl_nil ?_
  refine px_then ?_
  refine wc_cond (lk rfl) (fun hc0 => ?_) (fun hc0 => ?_)
  · refine wc_seq ?_
    refine wc_region ?_
    refine wl_v rfl (val_assign lkc) ?_
    refine wl_nil ?_
    refine px_then ?_
    refine wc_ret ?_
    refine px_then_ret ?_
    refine fin1 rfl (res_tmp rfl) (fun w1 hw => ?_)
    first | exact ⟨rfl, hw.drop rfl⟩ | (exfalso; revert hc0; simp; done) | (exfalso; revert hc0; simp; omega) | (exfalso; revert hc0; rw [eqRows_refl eqW_refl]; simp; done) | (exfalso; revert hc0; rw [eqRows_refl eqW_refl]; simp; omega) | (exfalso; revert hc0; rw [eq2_refl]; simp; done) | (exfalso; revert hc0; simp [eq2]; done) | (exfalso; have h9 := of_decide_eq_true hc0; omega)
  have hl : rs.length ≤ 1048576 := by have h9 := of_decide_eq_false hc0; unfold szN at h9; split at h9 <;> omega
  refine wc_skip ?_
  refine px_then ?_
  refine wc_seq ?_
  refine wc_region_a0 6 mo_ rfl ?_
  refine wa_take 0 rfl (by kernel_rfl) (by kernel_rfl) (by kernel_rfl) (by kernel_rfl) (fun _ h => h.dropN 0 rfl) gd_none rfl (val_move (lk rfl)) ?_
  refine wa_take 2 rfl (by kernel_rfl) (by kernel_rfl) (by kernel_rfl) (by kernel_rfl) (fun _ h => h.dropN 0 rfl) gd_none rfl (val_loadB (.head _) (lk rfl) ag_24) ?_
  refine wa_only 1 (by kernel_rfl) rfl ?_
  refine wl_callx rfl ci_14 (args1 (lk rfl)) (fun w1 hw => toRegistrationS_c _ _ _ _ _ w1 (hs.hp hw rfl) (by omega)) (fun _ => rfl) ?_
  rintro ⟨gb15, gc15, gs15⟩ ⟨hgl15, hgc15⟩
  refine wl_nil (px_qn (fun _ h => h.dropN 1 rfl) ?_)
  refine wa_only 3 (by kernel_rfl) rfl ?_
  refine wl_call gd_none rfl ci_15 (args1 (lk rfl)) (fun hG w1 hw => toSubscriberID_c p w1) ?_
  refine wl_nil (px_qn (fun _ h => h.dropN 1 rfl) ?_)
  refine wa_only 4 (by kernel_rfl) rfl ?_
  refine wl_call gd_none rfl ci_13 (args2 (lk rfl) (lk rfl)) (fun hG w1 hw => sFindW_c rs _ _ _ _ p w1 (Sl.own hw (.head _)) (by omega)) ?_
  refine wl_nil (px_qn (fun _ h => h.dropN 1 rfl) ?_)
  refine wa_take 5 rfl (by kernel_rfl) (by kernel_rfl) (by kernel_rfl) (by kernel_rfl) (fun _ h => h.dropN 1 rfl) gd_none rfl (val_assign (lk rfl)) ?_
  refine wa_done (by kernel_rfl) ?_
  refine px_then ?_
  refine wc_seq ?_
  refine wc_region ?_
  refine wl_v rfl (val_move (lk rfl)) ?_
  refine wl_callx rfl ci_14 (args1 (lk rfl)) (fun w1 hw => toRegistrationS_c _ _ _ _ _ w1 (hs.hp hw rfl) (by omega)) (fun _ => rfl) ?_
  rintro ⟨gb20, gc20, gs20⟩ ⟨hgl20, hgc20⟩
  refine wl_v rfl (val_assign (lk rfl)) ?_
  refine wl_nil ?_
  refine px_then ?_
  refine wc_seq ?_
  refine wc_region ?_
  refine wl_v rfl (val_move (lk rfl)) ?_
  refine wl_v rfl (val_loadB (.tail _ (.tail _ (.head _))) (lk rfl) ag_24) ?_
  refine wl_call gd_none rfl ci_15 (args1 (lk rfl)) (fun hG w1 hw => toSubscriberID_c p w1) ?_
  refine wl_call gd_none rfl ci_16 (args2 (lk rfl) (lk rfl)) (fun hG w1 hw => FindW_c rs _ _ _ _ p w1 (Sl.own hw (.head _)) (by omega)) ?_
  refine wl_v rfl (val_assign (lk rfl)) ?_
  refine wl_nil ?_
  refine px_then ?_
  refine wc_seq ?_
  refine wc_seq ?_
  refine wc_region ?_
  refine wl_v rfl (val_move (lk rfl)) ?_
  refine wl_v rfl (val_move (lk rfl)) ?_
  refine wl_v rfl (val_neq (lk rfl) (lk rfl)) ?_
  refine wl_nil ?_
  refine px_then ?_
  refine wc_cond (lk rfl) (fun hc1 => ?_) (fun hc1 => ?_)
  · refine wc_seq ?_
    refine wc_region ?_
    refine wl_v rfl (val_assign lkc) ?_
    refine wl_nil ?_
    refine px_then ?_
    refine wc_ret ?_
    refine px_then_ret ?_
    refine fin1 rfl (res_tmp rfl) (fun w1 hw => ?_)
    first | exact ⟨rfl, hw.drop rfl⟩ | (exfalso; revert hc1; simp; done) | (exfalso; revert hc1; simp; omega) | (exfalso; revert hc1; rw [eqRows_refl eqW_refl]; simp; done) | (exfalso; revert hc1; rw [eqRows_refl eqW_refl]; simp; omega) | (exfalso; revert hc1; rw [eq2_refl]; simp; done) | (exfalso; revert hc1; simp [eq2]; done) | (exfalso; have h9 := of_decide_eq_true hc1; omega)
  refine wc_skip ?_
  refine px_then ?_
  refine wc_seq ?_
  refine wc_seq ?_
  refine wc_region ?_
  refine wl_v rfl (val_move (lk rfl)) ?_
  refine wl_v rfl (val_move (lk rfl)) ?_
  refine wl_callx rfl ci_14 (args1 (lk rfl)) (fun w1 hw => toRegistrationS_c _ _ _ _ _ w1 (hs.hp hw rfl) (by omega)) (fun _ => rfl) ?_
  rintro ⟨gb30, gc30, gs30⟩ ⟨hgl30, hgc30⟩
  refine wl_call gd_none rfl ci_17 (args2 (lk rfl) (lk rfl)) (fun hG w1 hw => eqRegistrationS_c _ _ _ _ _ _ _ _ _ _ w1 (Sl.own hw (.tail _ (.head _))) (Sl.own hw (.head _)) (by omega)) ?_
  refine wl_v rfl (val_not (lk rfl)) ?_
  refine wl_nil ?_
  refine px_then ?_
  refine wc_cond (lk rfl) (fun hc2 => ?_) (fun hc2 => ?_)
  · refine wc_seq ?_
    refine wc_region ?_
    refine wl_v rfl (val_assign lkc) ?_
    refine wl_nil ?_
    refine px_then ?_
    refine wc_ret ?_
    refine px_then_ret ?_
    refine fin1 rfl (res_tmp rfl) (fun w1 hw => ?_)
    first | exact ⟨rfl, hw.drop rfl⟩ | (exfalso; revert hc2; simp; done) | (exfalso; revert hc2; simp; omega) | (exfalso; revert hc2; rw [eqRows_refl eqW_refl]; simp; done) | (exfalso; revert hc2; rw [eqRows_refl eqW_refl]; simp; omega) | (exfalso; revert hc2; rw [eq2_refl]; simp; done) | (exfalso; revert hc2; simp [eq2]; done) | (exfalso; have h9 := of_decide_eq_true hc2; omega)
  refine wc_skip ?_
  refine px_then ?_
  refine wc_seq ?_
  refine wc_region ?_
  refine wl_v rfl (val_assign lkc) ?_
  refine wl_nil ?_
  refine px_then ?_
  refine wc_ret ?_
  refine fin1 rfl (res_tmp rfl) (fun w1 hw => ?_)
  first | exact ⟨rfl, hw.drop rfl⟩ | (exfalso; revert hc2; simp; done) | (exfalso; revert hc2; simp; omega) | (exfalso; revert hc2; rw [eqRows_refl eqW_refl]; simp; done) | (exfalso; revert hc2; rw [eqRows_refl eqW_refl]; simp; omega) | (exfalso; revert hc2; rw [eq2_refl]; simp; done) | (exfalso; revert hc2; simp [eq2]; done) | (exfalso; have h9 := of_decide_eq_true hc2; omega)

theorem law_ResolveTempID (rs : List Reg) (A : Option Addr) (b o c : Nat) (net : Int) (p : Int × Int) (w : World) (hs : Sl w A b o (flat encW rs)) (hm : rs.length ≤ 9223372036854775807) :
    Calls Try.prog 4 #[.slice A rs.length c, .int .i64 net, .agg (recV enc2 p).toArray] w fun e w' => e = .returned (.bool true) ∧ HP w [] w' := by
  refine calls_entry [] _ Try.func4 rfl Try.ntmps4 (HP.refl w) (env3 rfl) ?_
  refine wc_seq ?_
  refine wc_region ?_
  refine wl_box (lk rfl) rfl fun b1 => ?_
  refine wl_v rfl (val_assign lkc) ?_
  refine wl_nil ?_
  refine px_then ?_
  refine wc_seq ?_
  refine wc_region ?_
  refine wl_v rfl (val_assign lkc) ?_
  refine wl_nil ?_
  refine px_then ?_
  refine wc_seq ?_
  refine wc_region ?_
  refine wl_v rfl (val_move (lk rfl)) ?_
  refine wl_v rfl (val_move (lk rfl)) ?_
  refine wl_call gd_none rfl ci_12 (args2 (lk rfl) (lk rfl)) (fun hG w1 hw => szRegistrationS_c _ _ _ _ w1 (by omega) (by omega)) ?_
  refine wl_v rfl (val_assign (lk rfl)) ?_
  refine wl_nil ?_
  refine px_then ?_
  refine wc_seq ?_
  refine wc_seq ?_
  refine wc_region ?_
  refine wl_v rfl (val_move (lk rfl)) ?_
  refine wl_v rfl (val_lss (lk rfl) lkc) ?_
  refine wl_nil ?_
  refine px_then ?_
  refine wc_cond (lk rfl) (fun hc0 => ?_) (fun hc0 => ?_)
  · refine wc_seq ?_
    refine wc_region ?_
    refine wl_v rfl (val_assign lkc) ?_
    refine wl_nil ?_
    refine px_then ?_
    refine wc_ret ?_
    refine px_then_ret ?_
    refine fin1 rfl (res_tmp rfl) (fun w1 hw => ?_)
    first | exact ⟨rfl, hw.drop rfl⟩ | (exfalso; revert hc0; simp; done) | (exfalso; revert hc0; simp; omega) | (exfalso; revert hc0; rw [eqRows_refl eqW_refl]; simp; done) | (exfalso; revert hc0; rw [eqRows_refl eqW_refl]; simp; omega) | (exfalso; revert hc0; rw [eq2_refl]; simp; done) | (exfalso; revert hc0; simp [eq2]; done) | (exfalso; have h9 := of_decide_eq_true hc0; omega)
  have hl : rs.length ≤ 1048576 := by have h9 := of_decide_eq_false hc0; unfold szN at h9; split at h9 <;> omega
  refine wc_skip ?_
  refine px_then ?_
  refine wc_seq ?_
  refine wc_region_a0 12 mo_ rfl ?_
  refine wa_take 0 rfl (by kernel_rfl) (by kernel_rfl) (by kernel_rfl) (by kernel_rfl) (fun _ h => h.dropN 0 rfl) gd_none rfl (val_move (lk rfl)) ?_
  refine wa_take 2 rfl (by kernel_rfl) (by kernel_rfl) (by kernel_rfl) (by kernel_rfl) (fun _ h => h.dropN 0 rfl) gd_none rfl (val_move (lk rfl)) ?_
  refine wa_take 3 rfl (by kernel_rfl) (by kernel_rfl) (by kernel_rfl) (by kernel_rfl) (fun _ h => h.dropN 0 rfl) gd_none rfl (val_loadB (.head _) (lk rfl) ag_34) ?_
  refine wa_chn1 [(false, 1, 20), (false, 4, 23), (false, 5, 24), (true, 6, 18), (true, 7, 25), (true, 8, 26)] 9 8 7 [1, 4, 5, 6, 7, 8, 9] (fun _ h => h.dropN 0 rfl) (by kernel_rfl) (by kernel_rfl) rfl rfl (fun _ _ => ops_alloc rfl zc_29 rfl) ?_
  refine ch_o (ops_callx rfl rfl ci_14 (args1 (lk rfl)) (fun w1 hw => toRegistrationS_c _ _ _ _ _ w1 (hs.hp hw rfl) (by omega)) (fun _ => rfl)) ?_
  rintro _ _ ⟨⟨gb20, gc20, gs20⟩, ⟨hgl20, hgc20⟩, rfl, rfl⟩
  refine ch_o (ops_call rfl rfl ci_19 (args1 (lk rfl)) (fun w1 hw => toTempID_c p w1)) ?_
  rintro _ _ ⟨rfl, rfl⟩
  refine ch_o (ops_call rfl rfl ci_18 (args3 (lk rfl) (lk rfl) (lk rfl)) (fun w1 hw => sRes_c rs _ _ _ _ net p w1 (Sl.own hw (.head _)) (by omega))) ?_
  rintro _ _ ⟨rfl, rfl⟩
  refine ch_q rfl gd_none rfl (val_move (lk rfl)) ?_
  refine ch_q rfl gd_none rfl (val_extract (lk rfl) rfl) ?_
  refine ch_q rfl gd_none rfl (val_extract (lk rfl) rfl) ?_
  refine ch_nil ?_
  rintro _ _ ⟨b2, rfl, rfl⟩
  refine wa_only 10 (by kernel_rfl) rfl ?_
  refine wl_storeB 0 rfl (lk rfl) (lk rfl) ag_29 rfl rfl ?_
  refine wl_nil (px_qn (fun _ h => h.dropN 2 rfl) ?_)
  refine wa_take 11 rfl (by kernel_rfl) (by kernel_rfl) (by kernel_rfl) (by kernel_rfl) (fun _ h => h.dropN 2 rfl) gd_none rfl (val_assign (lk rfl)) ?_
  refine wa_done (by kernel_rfl) ?_
  refine px_then ?_
  refine wc_seq ?_
  refine wc_region ?_
  refine wl_v rfl (val_move (lk rfl)) ?_
  refine wl_callx rfl ci_14 (args1 (lk rfl)) (fun w1 hw => toRegistrationS_c _ _ _ _ _ w1 (hs.hp hw rfl) (by omega)) (fun _ => rfl) ?_
  rintro ⟨gb28, gc28, gs28⟩ ⟨hgl28, hgc28⟩
  refine wl_v rfl (val_assign (lk rfl)) ?_
  refine wl_nil ?_
  refine px_then ?_
  refine wc_seq ?_
  refine wc_region ?_
  refine wl_v rfl (val_move (lk rfl)) ?_
  refine wl_v rfl (val_move (lk rfl)) ?_
  refine wl_v rfl (val_loadB (.tail _ (.tail _ (.tail _ (.head _)))) (lk rfl) ag_34) ?_
  refine wl_call gd_none rfl ci_19 (args1 (lk rfl)) (fun hG w1 hw => toTempID_c p w1) ?_
  refine wl_call gd_none rfl ci_20 (args3 (lk rfl) (lk rfl) (lk rfl)) (fun hG w1 hw => Res_c rs _ _ _ _ net p w1 (Sl.own hw (.head _)) (by omega)) ?_
  refine wl_v rfl (val_move (lk rfl)) ?_
  refine wl_v rfl (val_extract (lk rfl) rfl) ?_
  refine wl_v rfl (val_extract (lk rfl) rfl) ?_
  refine wl_alloc zc_29 rfl fun b3 => ?_
  refine wl_storeB 0 rfl (lk rfl) (lk rfl) ag_29 rfl rfl ?_
  refine wl_v rfl (val_assign (lk rfl)) ?_
  refine wl_nil ?_
  refine px_then ?_
  refine wc_seq ?_
  refine wc_seq ?_
  refine wc_region ?_
  refine wl_v rfl (val_loadB (.head _) (lk rfl) ag_29) ?_
  refine wl_v rfl (val_loadB (.tail _ (.tail _ (.head _))) (lk rfl) ag_29) ?_
  refine wl_call gd_none rfl ci_21 (args2 (lk rfl) (lk rfl)) (fun hG w1 hw => eqSubscriberID_c (resW rs net p) (resW rs net p) w1) ?_
  refine wl_v rfl (val_not (lk rfl)) ?_
  refine wl_v rfl (val_move (lk rfl)) ?_
  refine wl_val (gd_f rfl rfl rfl) rfl (val_move (lk rfl)) ?_
  refine wl_val (gd_f rfl rfl rfl) rfl (val_move (lk rfl)) ?_
  refine wl_val (gd_f rfl rfl rfl) rfl (val_neqB Try.underlying4 (lkg rfl) (lkg rfl)) ?_
  refine wl_v rfl (val_or (lk rfl) (lkg rfl)) ?_
  refine wl_nil ?_
  refine px_then ?_
  refine wc_cond (lk rfl) (fun hc1 => ?_) (fun hc1 => ?_)
  · refine wc_seq ?_
    refine wc_region ?_
    refine wl_v rfl (val_assign lkc) ?_
    refine wl_nil ?_
    refine px_then ?_
    refine wc_ret ?_
    refine px_then_ret ?_
    refine fin1 rfl (res_tmp rfl) (fun w1 hw => ?_)
    first | exact ⟨rfl, hw.drop rfl⟩ | (exfalso; revert hc1; simp; done) | (exfalso; revert hc1; simp; omega) | (exfalso; revert hc1; rw [eqRows_refl eqW_refl]; simp; done) | (exfalso; revert hc1; rw [eqRows_refl eqW_refl]; simp; omega) | (exfalso; revert hc1; rw [eq2_refl]; simp; done) | (exfalso; revert hc1; simp [eq2]; done) | (exfalso; have h9 := of_decide_eq_true hc1; omega)
  refine wc_skip ?_
  refine px_then ?_
  refine wc_seq ?_
  refine wc_seq ?_
  refine wc_region ?_
  refine wl_v rfl (val_move (lk rfl)) ?_
  refine wl_v rfl (val_move (lk rfl)) ?_
  refine wl_callx rfl ci_14 (args1 (lk rfl)) (fun w1 hw => toRegistrationS_c _ _ _ _ _ w1 (hs.hp hw rfl) (by omega)) (fun _ => rfl) ?_
  rintro ⟨gb48, gc48, gs48⟩ ⟨hgl48, hgc48⟩
  refine wl_call gd_none rfl ci_17 (args2 (lk rfl) (lk rfl)) (fun hG w1 hw => eqRegistrationS_c _ _ _ _ _ _ _ _ _ _ w1 (Sl.own hw (.tail _ (.tail _ (.head _)))) (Sl.own hw (.head _)) (by omega)) ?_
  refine wl_v rfl (val_not (lk rfl)) ?_
  refine wl_nil ?_
  refine px_then ?_
  refine wc_cond (lk rfl) (fun hc2 => ?_) (fun hc2 => ?_)
  · refine wc_seq ?_
    refine wc_region ?_
    refine wl_v rfl (val_assign lkc) ?_
    refine wl_nil ?_
    refine px_then ?_
    refine wc_ret ?_
    refine px_then_ret ?_
    refine fin1 rfl (res_tmp rfl) (fun w1 hw => ?_)
    first | exact ⟨rfl, hw.drop rfl⟩ | (exfalso; revert hc2; simp; done) | (exfalso; revert hc2; simp; omega) | (exfalso; revert hc2; rw [eqRows_refl eqW_refl]; simp; done) | (exfalso; revert hc2; rw [eqRows_refl eqW_refl]; simp; omega) | (exfalso; revert hc2; rw [eq2_refl]; simp; done) | (exfalso; revert hc2; simp [eq2]; done) | (exfalso; have h9 := of_decide_eq_true hc2; omega)
  refine wc_skip ?_
  refine px_then ?_
  refine wc_seq ?_
  refine wc_region ?_
  refine wl_v rfl (val_assign lkc) ?_
  refine wl_nil ?_
  refine px_then ?_
  refine wc_ret ?_
  refine fin1 rfl (res_tmp rfl) (fun w1 hw => ?_)
  first | exact ⟨rfl, hw.drop rfl⟩ | (exfalso; revert hc2; simp; done) | (exfalso; revert hc2; simp; omega) | (exfalso; revert hc2; rw [eqRows_refl eqW_refl]; simp; done) | (exfalso; revert hc2; rw [eqRows_refl eqW_refl]; simp; omega) | (exfalso; revert hc2; rw [eq2_refl]; simp; done) | (exfalso; revert hc2; simp [eq2]; done) | (exfalso; have h9 := of_decide_eq_true hc2; omega)

theorem law_EqualRegistrations (rs ys : List Reg) (A B : Option Addr) (b o c b2 o2 c2 : Nat) (w : World) (hs : Sl w A b o (flat encW rs)) (hm : rs.length ≤ 9223372036854775807) (hs2 : Sl w B b2 o2 (flat encW ys)) (hm2 : ys.length ≤ 9223372036854775807) :
    Calls Try.prog 5 #[.slice A rs.length c, .slice B ys.length c2] w fun e w' => e = .returned (.bool true) ∧ HP w [] w' := by
  refine calls_entry [] _ Try.func5 rfl Try.ntmps5 (HP.refl w) (env2 rfl) ?_
  refine wc_seq ?_
  refine wc_region ?_
  refine wl_v rfl (val_assign lkc) ?_
  refine wl_nil ?_
  refine px_then ?_
  refine wc_seq ?_
  refine wc_region ?_
  refine wl_v rfl (val_assign lkc) ?_
  refine wl_nil ?_
  refine px_then ?_
  refine wc_seq ?_
  refine wc_region ?_
  refine wl_v rfl (val_move (lk rfl)) ?_
  refine wl_v rfl (val_move (lk rfl)) ?_
  refine wl_call gd_none rfl ci_12 (args2 (lk rfl) (lk rfl)) (fun hG w1 hw => szRegistrationS_c _ _ _ _ w1 (by omega) (by omega)) ?_
  refine wl_v rfl (val_assign (lk rfl)) ?_
  refine wl_nil ?_
  refine px_then ?_
  refine wc_seq ?_
  refine wc_seq ?_
  refine wc_region ?_
  refine wl_v rfl (val_move (lk rfl)) ?_
  refine wl_v rfl (val_lss (lk rfl) lkc) ?_
  refine wl_nil ?_
  refine px_then ?_
  refine wc_cond (lk rfl) (fun hc0 => ?_) (fun hc0 => ?_)
  · refine wc_seq ?_
    refine wc_region ?_
    refine wl_v rfl (val_assign lkc) ?_
    refine wl_nil ?_
    refine px_then ?_
    refine wc_ret ?_
    refine px_then_ret ?_
    refine fin1 rfl (res_tmp rfl) (fun w1 hw => ?_)
    first | exact ⟨rfl, hw.drop rfl⟩ | (exfalso; revert hc0; simp; done) | (exfalso; revert hc0; simp; omega) | (exfalso; revert hc0; rw [eqRows_refl eqW_refl]; simp; done) | (exfalso; revert hc0; rw [eqRows_refl eqW_refl]; simp; omega) | (exfalso; revert hc0; rw [eq2_refl]; simp; done) | (exfalso; revert hc0; simp [eq2]; done) | (exfalso; have h9 := of_decide_eq_true hc0; omega)
  have hl : rs.length ≤ 1048576 := by have h9 := of_decide_eq_false hc0; unfold szN at h9; split at h9 <;> omega
  have hz : 0 ≤ szN 1048576 rs.length ∧ szN 1048576 rs.length ≤ 1048576 := by have h9 := of_decide_eq_false hc0; unfold szN at h9 ⊢; split at h9 <;> rename_i hq <;> simp only [hq] <;> simp <;> omega
  refine wc_skip ?_
  refine px_then ?_
  refine wc_seq ?_
  refine wc_region ?_
  refine wl_v rfl (val_move (lk rfl)) ?_
  refine wl_v rfl (val_move (lk rfl)) ?_
  refine wl_call gd_none rfl ci_12 (args2 (lk rfl) (lk rfl)) (fun hG w1 hw => szRegistrationS_c _ _ _ _ w1 (by omega) (by omega)) ?_
  refine wl_v rfl (val_assign (lk rfl)) ?_
  refine wl_nil ?_
  refine px_then ?_
  refine wc_seq ?_
  refine wc_seq ?_
  refine wc_region ?_
  refine wl_v rfl (val_move (lk rfl)) ?_
  refine wl_v rfl (val_lss (lk rfl) lkc) ?_
  refine wl_nil ?_
  refine px_then ?_
  refine wc_cond (lk rfl) (fun hc1 => ?_) (fun hc1 => ?_)
  · refine wc_seq ?_
    refine wc_region ?_
    refine wl_v rfl (val_assign lkc) ?_
    refine wl_nil ?_
    refine px_then ?_
    refine wc_ret ?_
    refine px_then_ret ?_
    refine fin1 rfl (res_tmp rfl) (fun w1 hw => ?_)
    first | exact ⟨rfl, hw.drop rfl⟩ | (exfalso; revert hc1; simp; done) | (exfalso; revert hc1; simp; omega) | (exfalso; revert hc1; rw [eqRows_refl eqW_refl]; simp; done) | (exfalso; revert hc1; rw [eqRows_refl eqW_refl]; simp; omega) | (exfalso; revert hc1; rw [eq2_refl]; simp; done) | (exfalso; revert hc1; simp [eq2]; done) | (exfalso; have h9 := of_decide_eq_true hc1; omega)
  have hl2 : ys.length ≤ 1048576 := by have h9 := of_decide_eq_false hc1; unfold szN at h9; split at h9 <;> omega
  refine wc_skip ?_
  refine px_then ?_
  refine wc_seq ?_
  refine wc_region ?_
  refine wl_v rfl (val_move (lk rfl)) ?_
  refine wl_callx rfl ci_14 (args1 (lk rfl)) (fun w1 hw => toRegistrationS_c _ _ _ _ _ w1 (hs.hp hw rfl) (by omega)) (fun _ => rfl) ?_
  rintro ⟨gb21, gc21, gs21⟩ ⟨hgl21, hgc21⟩
  refine wl_v rfl (val_move (lk rfl)) ?_
  refine wl_callx rfl ci_14 (args1 (lk rfl)) (fun w1 hw => toRegistrationS_c _ _ _ _ _ w1 (hs2.hp hw rfl) (by omega)) (fun _ => rfl) ?_
  rintro ⟨gb23, gc23, gs23⟩ ⟨hgl23, hgc23⟩
  refine wl_call gd_none rfl ci_22 (args2 (lk rfl) (lk rfl)) (fun hG w1 hw => sEqualW_c rs ys _ _ _ _ _ _ _ _ w1 (Sl.own hw (.tail _ (.head _))) (by omega) (Sl.own hw (.head _))) ?_
  refine wl_v rfl (val_assign (lk rfl)) ?_
  refine wl_nil ?_
  refine px_then ?_
  refine wc_seq ?_
  refine wc_region ?_
  refine wl_v rfl (val_move (lk rfl)) ?_
  refine wl_callx rfl ci_14 (args1 (lk rfl)) (fun w1 hw => toRegistrationS_c _ _ _ _ _ w1 (hs.hp hw rfl) (by omega)) (fun _ => rfl) ?_
  rintro ⟨gb26, gc26, gs26⟩ ⟨hgl26, hgc26⟩
  refine wl_v rfl (val_assign (lk rfl)) ?_
  refine wl_nil ?_
  refine px_then ?_
  refine wc_seq ?_
  refine wc_region ?_
  refine wl_v rfl (val_move (lk rfl)) ?_
  refine wl_callx rfl ci_14 (args1 (lk rfl)) (fun w1 hw => toRegistrationS_c _ _ _ _ _ w1 (hs2.hp hw rfl) (by omega)) (fun _ => rfl) ?_
  rintro ⟨gb28, gc28, gs28⟩ ⟨hgl28, hgc28⟩
  refine wl_v rfl (val_assign (lk rfl)) ?_
  refine wl_nil ?_
  refine px_then ?_
  refine wc_seq ?_
  refine wc_region ?_
  refine wl_v rfl (val_move (lk rfl)) ?_
  refine wl_v rfl (val_move (lk rfl)) ?_
  refine wl_call gd_none rfl ci_23 (args2 (lk rfl) (lk rfl)) (fun hG w1 hw => EqualW_c rs ys _ _ _ _ _ _ _ _ w1 (Sl.own hw (.tail _ (.head _))) (by omega) (Sl.own hw (.head _))) ?_
  refine wl_v rfl (val_assign (lk rfl)) ?_
  refine wl_nil ?_
  refine px_then ?_
  refine wc_seq ?_
  refine wc_seq ?_
  refine wc_region ?_
  refine wl_v rfl (val_move (lk rfl)) ?_
  refine wl_v rfl (val_move (lk rfl)) ?_
  refine wl_v rfl (val_neqB Try.underlying4 (lk rfl) (lk rfl)) ?_
  refine wl_nil ?_
  refine px_then ?_
  refine wc_cond (lk rfl) (fun hc2 => ?_) (fun hc2 => ?_)
  · refine wc_seq ?_
    refine wc_region ?_
    refine wl_v rfl (val_assign lkc) ?_
    refine wl_nil ?_
    refine px_then ?_
    refine wc_ret ?_
    refine px_then_ret ?_
    refine fin1 rfl (res_tmp rfl) (fun w1 hw => ?_)
    first | exact ⟨rfl, hw.drop rfl⟩ | (exfalso; revert hc2; simp; done) | (exfalso; revert hc2; simp; omega) | (exfalso; revert hc2; rw [eqRows_refl eqW_refl]; simp; done) | (exfalso; revert hc2; rw [eqRows_refl eqW_refl]; simp; omega) | (exfalso; revert hc2; rw [eq2_refl]; simp; done) | (exfalso; revert hc2; simp [eq2]; done) | (exfalso; have h9 := of_decide_eq_true hc2; omega)
  refine wc_skip ?_
  refine px_then ?_
  refine wc_seq ?_
  refine wc_seq ?_
  refine wc_region ?_
  refine wl_v rfl (val_move (lk rfl)) ?_
  refine wl_v rfl (val_move (lk rfl)) ?_
  refine wl_callx rfl ci_14 (args1 (lk rfl)) (fun w1 hw => toRegistrationS_c _ _ _ _ _ w1 (hs.hp hw rfl) (by omega)) (fun _ => rfl) ?_
  rintro ⟨gb37, gc37, gs37⟩ ⟨hgl37, hgc37⟩
  refine wl_call gd_none rfl ci_17 (args2 (lk rfl) (lk rfl)) (fun hG w1 hw => eqRegistrationS_c _ _ _ _ _ _ _ _ _ _ w1 (Sl.own hw (.tail _ (.tail _ (.head _)))) (Sl.own hw (.head _)) (by omega)) ?_
  refine wl_v rfl (val_not (lk rfl)) ?_
  refine wl_nil ?_
  refine px_then ?_
  refine wc_cond (lk rfl) (fun hc3 => ?_) (fun hc3 => ?_)
  · refine wc_seq ?_
    refine wc_region ?_
    refine wl_v rfl (val_assign lkc) ?_
    refine wl_nil ?_
    refine px_then ?_
    refine wc_ret ?_
    refine px_then_ret ?_
    refine fin1 rfl (res_tmp rfl) (fun w1 hw => ?_)
    first | exact ⟨rfl, hw.drop rfl⟩ | (exfalso; revert hc3; simp; done) | (exfalso; revert hc3; simp; omega) | (exfalso; revert hc3; rw [eqRows_refl eqW_refl]; simp; done) | (exfalso; revert hc3; rw [eqRows_refl eqW_refl]; simp; omega) | (exfalso; revert hc3; rw [eq2_refl]; simp; done) | (exfalso; revert hc3; simp [eq2]; done) | (exfalso; have h9 := of_decide_eq_true hc3; omega)
  refine wc_skip ?_
  refine px_then ?_
  refine wc_seq ?_
  refine wc_seq ?_
  refine wc_region ?_
  refine wl_v rfl (val_move (lk rfl)) ?_
  refine wl_v rfl (val_move (lk rfl)) ?_
  refine wl_callx rfl ci_14 (args1 (lk rfl)) (fun w1 hw => toRegistrationS_c _ _ _ _ _ w1 (hs2.hp hw rfl) (by omega)) (fun _ => rfl) ?_
  rintro ⟨gb42, gc42, gs42⟩ ⟨hgl42, hgc42⟩
  refine wl_call gd_none rfl ci_17 (args2 (lk rfl) (lk rfl)) (fun hG w1 hw => eqRegistrationS_c _ _ _ _ _ _ _ _ _ _ w1 (Sl.own hw (.tail _ (.tail _ (.head _)))) (Sl.own hw (.head _)) (by omega)) ?_
  refine wl_v rfl (val_not (lk rfl)) ?_
  refine wl_nil ?_
  refine px_then ?_
  refine wc_cond (lk rfl) (fun hc4 => ?_) (fun hc4 => ?_)
  · refine wc_seq ?_
    refine wc_region ?_
    refine wl_v rfl (val_assign lkc) ?_
    refine wl_nil ?_
    refine px_then ?_
    refine wc_ret ?_
    refine px_then_ret ?_
    refine fin1 rfl (res_tmp rfl) (fun w1 hw => ?_)
    first | exact ⟨rfl, hw.drop rfl⟩ | (exfalso; revert hc4; simp; done) | (exfalso; revert hc4; simp; omega) | (exfalso; revert hc4; rw [eqRows_refl eqW_refl]; simp; done) | (exfalso; revert hc4; rw [eqRows_refl eqW_refl]; simp; omega) | (exfalso; revert hc4; rw [eq2_refl]; simp; done) | (exfalso; revert hc4; simp [eq2]; done) | (exfalso; have h9 := of_decide_eq_true hc4; omega)
  refine wc_skip ?_
  refine px_then ?_
  refine wc_seq ?_
  refine wc_region ?_
  refine wl_v rfl (val_assign lkc) ?_
  refine wl_nil ?_
  refine px_then ?_
  refine wc_ret ?_
  refine fin1 rfl (res_tmp rfl) (fun w1 hw => ?_)
  first | exact ⟨rfl, hw.drop rfl⟩ | (exfalso; revert hc4; simp; done) | (exfalso; revert hc4; simp; omega) | (exfalso; revert hc4; rw [eqRows_refl eqW_refl]; simp; done) | (exfalso; revert hc4; rw [eqRows_refl eqW_refl]; simp; omega) | (exfalso; revert hc4; rw [eq2_refl]; simp; done) | (exfalso; revert hc4; simp [eq2]; done) | (exfalso; have h9 := of_decide_eq_true hc4; omega)

theorem law_MayLocate (rs : List Reg) (A : Option Addr) (b o c : Nat) (a : Int) (p : Int × Int) (w : World) (hs : Sl w A b o (flat encW rs)) (hm : rs.length ≤ 9223372036854775807) :
    Calls Try.prog 6 #[.slice A rs.length c, .int .i64 a, .agg (recV enc2 p).toArray] w fun e w' => e = .returned (.bool true) ∧ HP w [] w' := by
  refine calls_entry [] _ Try.func6 rfl Try.ntmps6 (HP.refl w) (env3 rfl) ?_
  refine wc_seq ?_
  refine wc_region ?_
  refine wl_box (lk rfl) rfl fun b1 => ?_
  refine wl_v rfl (val_assign lkc) ?_
  refine wl_nil ?_
  refine px_then ?_
  refine wc_seq ?_
  refine wc_region ?_
  refine wl_v rfl (val_assign lkc) ?_
  refine wl_nil ?_
  refine px_then ?_
  refine wc_seq ?_
  refine wc_region ?_
  refine wl_v rfl (val_move (lk rfl)) ?_
  refine wl_v rfl (val_move (lk rfl)) ?_
  refine wl_call gd_none rfl ci_12 (args2 (lk rfl) (lk rfl)) (fun hG w1 hw => szRegistrationS_c _ _ _ _ w1 (by omega) (by omega)) ?_
  refine wl_v rfl (val_assign (lk rfl)) ?_
  refine wl_nil ?_
  refine px_then ?_
  refine wc_seq ?_
  refine wc_seq ?_
  refine wc_region ?_
  refine wl_v rfl (val_move (lk rfl)) ?_
  refine wl_v rfl (val_lss (lk rfl) lkc) ?_
  refine wl_nil ?_
  refine px_then ?_
  refine wc_cond (lk rfl) (fun hc0 => ?_) (fun hc0 => ?_)
  · refine wc_seq ?_
    refine wc_region ?_
    refine wl_v rfl (val_assign lkc) ?_
    refine wl_nil ?_
    refine px_then ?_
    refine wc_ret ?_
    refine px_then_ret ?_
    refine fin1 rfl (res_tmp rfl) (fun w1 hw => ?_)
    first | exact ⟨rfl, hw.drop rfl⟩ | (exfalso; revert hc0; simp; done) | (exfalso; revert hc0; simp; omega) | (exfalso; revert hc0; rw [eqRows_refl eqW_refl]; simp; done) | (exfalso; revert hc0; rw [eqRows_refl eqW_refl]; simp; omega) | (exfalso; revert hc0; rw [eq2_refl]; simp; done) | (exfalso; revert hc0; simp [eq2]; done) | (exfalso; have h9 := of_decide_eq_true hc0; omega)
  have hl : rs.length ≤ 1048576 := by have h9 := of_decide_eq_false hc0; unfold szN at h9; split at h9 <;> omega
  refine wc_skip ?_
  refine px_then ?_
  refine wc_seq ?_
  refine wc_region_a0 7 mo_ rfl ?_
  refine wa_take 0 rfl (by kernel_rfl) (by kernel_rfl) (by kernel_rfl) (by kernel_rfl) (fun _ h => h.dropN 0 rfl) gd_none rfl (val_move (lk rfl)) ?_
  refine wa_take 2 rfl (by kernel_rfl) (by kernel_rfl) (by kernel_rfl) (by kernel_rfl) (fun _ h => h.dropN 0 rfl) gd_none rfl (val_move (lk rfl)) ?_
  refine wa_take 3 rfl (by kernel_rfl) (by kernel_rfl) (by kernel_rfl) (by kernel_rfl) (fun _ h => h.dropN 0 rfl) gd_none rfl (val_loadB (.head _) (lk rfl) ag_24) ?_
  refine wa_only 1 (by kernel_rfl) rfl ?_
  refine wl_callx rfl ci_14 (args1 (lk rfl)) (fun w1 hw => toRegistrationS_c _ _ _ _ _ w1 (hs.hp hw rfl) (by omega)) (fun _ => rfl) ?_
  rintro ⟨gb17, gc17, gs17⟩ ⟨hgl17, hgc17⟩
  refine wl_nil (px_qn (fun _ h => h.dropN 1 rfl) ?_)
  refine wa_only 4 (by kernel_rfl) rfl ?_
  refine wl_call gd_none rfl ci_15 (args1 (lk rfl)) (fun hG w1 hw => toSubscriberID_c p w1) ?_
  refine wl_nil (px_qn (fun _ h => h.dropN 1 rfl) ?_)
  refine wa_only 5 (by kernel_rfl) rfl ?_
  refine wl_call gd_none rfl ci_24 (args3 (lk rfl) (lk rfl) (lk rfl)) (fun hG w1 hw => sMay_c rs _ _ _ _ a p w1 (Sl.own hw (.head _)) (by omega)) ?_
  refine wl_nil (px_qn (fun _ h => h.dropN 1 rfl) ?_)
  refine wa_take 6 rfl (by kernel_rfl) (by kernel_rfl) (by kernel_rfl) (by kernel_rfl) (fun _ h => h.dropN 1 rfl) gd_none rfl (val_assign (lk rfl)) ?_
  refine wa_done (by kernel_rfl) ?_
  refine px_then ?_
  refine wc_seq ?_
  refine wc_region ?_
  refine wl_v rfl (val_move (lk rfl)) ?_
  refine wl_callx rfl ci_14 (args1 (lk rfl)) (fun w1 hw => toRegistrationS_c _ _ _ _ _ w1 (hs.hp hw rfl) (by omega)) (fun _ => rfl) ?_
  rintro ⟨gb23, gc23, gs23⟩ ⟨hgl23, hgc23⟩
  refine wl_v rfl (val_assign (lk rfl)) ?_
  refine wl_nil ?_
  refine px_then ?_
  refine wc_seq ?_
  refine wc_region ?_
  refine wl_v rfl (val_move (lk rfl)) ?_
  refine wl_v rfl (val_move (lk rfl)) ?_
  refine wl_v rfl (val_loadB (.tail _ (.tail _ (.head _))) (lk rfl) ag_24) ?_
  refine wl_call gd_none rfl ci_15 (args1 (lk rfl)) (fun hG w1 hw => toSubscriberID_c p w1) ?_
  refine wl_call gd_none rfl ci_25 (args3 (lk rfl) (lk rfl) (lk rfl)) (fun hG w1 hw => May_c rs _ _ _ _ a p w1 (Sl.own hw (.head _)) (by omega)) ?_
  refine wl_v rfl (val_assign (lk rfl)) ?_
  refine wl_nil ?_
  refine px_then ?_
  refine wc_seq ?_
  refine wc_seq ?_
  refine wc_region ?_
  refine wl_v rfl (val_move (lk rfl)) ?_
  refine wl_v rfl (val_move (lk rfl)) ?_
  refine wl_v rfl (val_neqB Try.underlying4 (lk rfl) (lk rfl)) ?_
  refine wl_nil ?_
  refine px_then ?_
  refine wc_cond (lk rfl) (fun hc1 => ?_) (fun hc1 => ?_)
  · refine wc_seq ?_
    refine wc_region ?_
    refine wl_v rfl (val_assign lkc) ?_
    refine wl_nil ?_
    refine px_then ?_
    refine wc_ret ?_
    refine px_then_ret ?_
    refine fin1 rfl (res_tmp rfl) (fun w1 hw => ?_)
    first | exact ⟨rfl, hw.drop rfl⟩ | (exfalso; revert hc1; simp; done) | (exfalso; revert hc1; simp; omega) | (exfalso; revert hc1; rw [eqRows_refl eqW_refl]; simp; done) | (exfalso; revert hc1; rw [eqRows_refl eqW_refl]; simp; omega) | (exfalso; revert hc1; rw [eq2_refl]; simp; done) | (exfalso; revert hc1; simp [eq2]; done) | (exfalso; have h9 := of_decide_eq_true hc1; omega)
  refine wc_skip ?_
  refine px_then ?_
  refine wc_seq ?_
  refine wc_seq ?_
  refine wc_region ?_
  refine wl_v rfl (val_move (lk rfl)) ?_
  refine wl_v rfl (val_move (lk rfl)) ?_
  refine wl_callx rfl ci_14 (args1 (lk rfl)) (fun w1 hw => toRegistrationS_c _ _ _ _ _ w1 (hs.hp hw rfl) (by omega)) (fun _ => rfl) ?_
  rintro ⟨gb34, gc34, gs34⟩ ⟨hgl34, hgc34⟩
  refine wl_call gd_none rfl ci_17 (args2 (lk rfl) (lk rfl)) (fun hG w1 hw => eqRegistrationS_c _ _ _ _ _ _ _ _ _ _ w1 (Sl.own hw (.tail _ (.head _))) (Sl.own hw (.head _)) (by omega)) ?_
  refine wl_v rfl (val_not (lk rfl)) ?_
  refine wl_nil ?_
  refine px_then ?_
  refine wc_cond (lk rfl) (fun hc2 => ?_) (fun hc2 => ?_)
  · refine wc_seq ?_
    refine wc_region ?_
    refine wl_v rfl (val_assign lkc) ?_
    refine wl_nil ?_
    refine px_then ?_
    refine wc_ret ?_
    refine px_then_ret ?_
    refine fin1 rfl (res_tmp rfl) (fun w1 hw => ?_)
    first | exact ⟨rfl, hw.drop rfl⟩ | (exfalso; revert hc2; simp; done) | (exfalso; revert hc2; simp; omega) | (exfalso; revert hc2; rw [eqRows_refl eqW_refl]; simp; done) | (exfalso; revert hc2; rw [eqRows_refl eqW_refl]; simp; omega) | (exfalso; revert hc2; rw [eq2_refl]; simp; done) | (exfalso; revert hc2; simp [eq2]; done) | (exfalso; have h9 := of_decide_eq_true hc2; omega)
  refine wc_skip ?_
  refine px_then ?_
  refine wc_seq ?_
  refine wc_region ?_
  refine wl_v rfl (val_assign lkc) ?_
  refine wl_nil ?_
  refine px_then ?_
  refine wc_ret ?_
  refine fin1 rfl (res_tmp rfl) (fun w1 hw => ?_)
  first | exact ⟨rfl, hw.drop rfl⟩ | (exfalso; revert hc2; simp; done) | (exfalso; revert hc2; simp; omega) | (exfalso; revert hc2; rw [eqRows_refl eqW_refl]; simp; done) | (exfalso; revert hc2; rw [eqRows_refl eqW_refl]; simp; omega) | (exfalso; revert hc2; rw [eq2_refl]; simp; done) | (exfalso; revert hc2; simp [eq2]; done) | (exfalso; have h9 := of_decide_eq_true hc2; omega)

theorem law_LocateArea (rs : List Reg) (A : Option Addr) (b o c : Nat) (a : Int) (p : Int × Int) (w : World) (hs : Sl w A b o (flat encW rs)) (hm : rs.length ≤ 9223372036854775807) :
    Calls Try.prog 7 #[.slice A rs.length c, .int .i64 a, .agg (recV enc2 p).toArray] w fun e w' => e = .returned (.bool true) ∧ HP w [] w' := by
  refine calls_entry [] _ Try.func7 rfl Try.ntmps7 (HP.refl w) (env3 rfl) ?_
  refine wc_seq ?_
  refine wc_region ?_
  refine wl_box (lk rfl) rfl fun b1 => ?_
  refine wl_v rfl (val_assign lkc) ?_
  refine wl_nil ?_
  refine px_then ?_
  refine wc_seq ?_
  refine wc_region ?_
  refine wl_v rfl (val_assign lkc) ?_
  refine wl_nil ?_
  refine px_then ?_
  refine wc_seq ?_
  refine wc_region ?_
  refine wl_v rfl (val_move (lk rfl)) ?_
  refine wl_v rfl (val_move (lk rfl)) ?_
  refine wl_call gd_none rfl ci_12 (args2 (lk rfl) (lk rfl)) (fun hG w1 hw => szRegistrationS_c _ _ _ _ w1 (by omega) (by omega)) ?_
  refine wl_v rfl (val_assign (lk rfl)) ?_
  refine wl_nil ?_
  refine px_then ?_
  refine wc_seq ?_
  refine wc_seq ?_
  refine wc_region ?_
  refine wl_v rfl (val_move (lk rfl)) ?_
  refine wl_v rfl (val_lss (lk rfl) lkc) ?_
  refine wl_nil ?_
  refine px_then ?_
  refine wc_cond (lk rfl) (fun hc0 => ?_) (fun hc0 => ?_)
  · refine wc_seq ?_
    refine wc_region ?_
    refine wl_v rfl (val_assign lkc) ?_
    refine wl_nil ?_
    refine px_then ?_
    refine wc_ret ?_
    refine px_then_ret ?_
    refine fin1 rfl (res_tmp rfl) (fun w1 hw => ?_)
    first | exact ⟨rfl, hw.drop rfl⟩ | (exfalso; revert hc0; simp; done) | (exfalso; revert hc0; simp; omega) | (exfalso; revert hc0; rw [eqRows_refl eqW_refl]; simp; done) | (exfalso; revert hc0; rw [eqRows_refl eqW_refl]; simp; omega) | (exfalso; revert hc0; rw [eq2_refl]; simp; done) | (exfalso; revert hc0; simp [eq2]; done) | (exfalso; have h9 := of_decide_eq_true hc0; omega)
  have hl : rs.length ≤ 1048576 := by have h9 := of_decide_eq_false hc0; unfold szN at h9; split at h9 <;> omega
  refine wc_skip ?_
  refine px_then ?_
  refine wc_seq ?_
  refine wc_region_a0 11 mo_ rfl ?_
  refine wa_take 0 rfl (by kernel_rfl) (by kernel_rfl) (by kernel_rfl) (by kernel_rfl) (fun _ h => h.dropN 0 rfl) gd_none rfl (val_move (lk rfl)) ?_
  refine wa_take 2 rfl (by kernel_rfl) (by kernel_rfl) (by kernel_rfl) (by kernel_rfl) (fun _ h => h.dropN 0 rfl) gd_none rfl (val_move (lk rfl)) ?_
  refine wa_take 3 rfl (by kernel_rfl) (by kernel_rfl) (by kernel_rfl) (by kernel_rfl) (fun _ h => h.dropN 0 rfl) gd_none rfl (val_loadB (.head _) (lk rfl) ag_24) ?_
  refine wa_only 1 (by kernel_rfl) rfl ?_
  refine wl_callx rfl ci_14 (args1 (lk rfl)) (fun w1 hw => toRegistrationS_c _ _ _ _ _ w1 (hs.hp hw rfl) (by omega)) (fun _ => rfl) ?_
  rintro ⟨gb20, gc20, gs20⟩ ⟨hgl20, hgc20⟩
  refine wl_nil (px_qn (fun _ h => h.dropN 1 rfl) ?_)
  refine wa_only 4 (by kernel_rfl) rfl ?_
  refine wl_call gd_none rfl ci_15 (args1 (lk rfl)) (fun hG w1 hw => toSubscriberID_c p w1) ?_
  refine wl_nil (px_qn (fun _ h => h.dropN 1 rfl) ?_)
  refine wa_only 5 (by kernel_rfl) rfl ?_
  refine wl_call gd_none rfl ci_26 (args3 (lk rfl) (lk rfl) (lk rfl)) (fun hG w1 hw => sLoc_c rs _ _ _ _ a p w1 (Sl.own hw (.head _)) (by omega)) ?_
  refine wl_nil (px_qn (fun _ h => h.dropN 1 rfl) ?_)
  refine wa_take 6 rfl (by kernel_rfl) (by kernel_rfl) (by kernel_rfl) (by kernel_rfl) (fun _ h => h.dropN 1 rfl) gd_none rfl (val_move (lk rfl)) ?_
  refine wa_take 7 rfl (by kernel_rfl) (by kernel_rfl) (by kernel_rfl) (by kernel_rfl) (fun _ h => h.dropN 1 rfl) gd_none rfl (val_extract (lk rfl) rfl) ?_
  refine wa_take 8 rfl (by kernel_rfl) (by kernel_rfl) (by kernel_rfl) (by kernel_rfl) (fun _ h => h.dropN 1 rfl) gd_none rfl (val_extract (lk rfl) rfl) ?_
  refine wa_take 9 rfl (by kernel_rfl) (by kernel_rfl) (by kernel_rfl) (by kernel_rfl) (fun _ h => h.dropN 1 rfl) gd_none rfl (val_assign (lk rfl)) ?_
  refine wa_take 10 rfl (by kernel_rfl) (by kernel_rfl) (by kernel_rfl) (by kernel_rfl) (fun _ h => h.dropN 1 rfl) gd_none rfl (val_assign (lk rfl)) ?_
  refine wa_done (by kernel_rfl) ?_
  refine px_then ?_
  refine wc_seq ?_
  refine wc_region ?_
  refine wl_v rfl (val_move (lk rfl)) ?_
  refine wl_callx rfl ci_14 (args1 (lk rfl)) (fun w1 hw => toRegistrationS_c _ _ _ _ _ w1 (hs.hp hw rfl) (by omega)) (fun _ => rfl) ?_
  rintro ⟨gb28, gc28, gs28⟩ ⟨hgl28, hgc28⟩
  refine wl_v rfl (val_assign (lk rfl)) ?_
  refine wl_nil ?_
  refine px_then ?_
  refine wc_seq ?_
  refine wc_region ?_
  refine wl_v rfl (val_move (lk rfl)) ?_
  refine wl_v rfl (val_move (lk rfl)) ?_
  refine wl_v rfl (val_loadB (.tail _ (.tail _ (.head _))) (lk rfl) ag_24) ?_
  refine wl_call gd_none rfl ci_15 (args1 (lk rfl)) (fun hG w1 hw => toSubscriberID_c p w1) ?_
  refine wl_call gd_none rfl ci_27 (args3 (lk rfl) (lk rfl) (lk rfl)) (fun hG w1 hw => Loc_c rs _ _ _ _ a p w1 (Sl.own hw (.head _)) (by omega)) ?_
  refine wl_v rfl (val_move (lk rfl)) ?_
  refine wl_v rfl (val_extract (lk rfl) rfl) ?_
  refine wl_v rfl (val_extract (lk rfl) rfl) ?_
  refine wl_v rfl (val_assign (lk rfl)) ?_
  refine wl_v rfl (val_assign (lk rfl)) ?_
  refine wl_nil ?_
  refine px_then ?_
  refine wc_seq ?_
  refine wc_seq ?_
  refine wc_region ?_
  refine wl_v rfl (val_move (lk rfl)) ?_
  refine wl_v rfl (val_move (lk rfl)) ?_
  refine wl_v rfl (val_neq (lk rfl) (lk rfl)) ?_
  refine wl_v rfl (val_move (lk rfl)) ?_
  refine wl_val (gd_f rfl rfl rfl) rfl (val_move (lk rfl)) ?_
  refine wl_val (gd_f rfl rfl rfl) rfl (val_move (lk rfl)) ?_
  refine wl_val (gd_f rfl rfl rfl) rfl (val_neqB Try.underlying4 (lkg rfl) (lkg rfl)) ?_
  refine wl_v rfl (val_or (lk rfl) (lkg rfl)) ?_
  refine wl_nil ?_
  refine px_then ?_
  refine wc_cond (lk rfl) (fun hc1 => ?_) (fun hc1 => ?_)
  · refine wc_seq ?_
    refine wc_region ?_
    refine wl_v rfl (val_assign lkc) ?_
    refine wl_nil ?_
    refine px_then ?_
    refine wc_ret ?_
    refine px_then_ret ?_
    refine fin1 rfl (res_tmp rfl) (fun w1 hw => ?_)
    first | exact ⟨rfl, hw.drop rfl⟩ | (exfalso; revert hc1; simp; done) | (exfalso; revert hc1; simp; omega) | (exfalso; revert hc1; rw [eqRows_refl eqW_refl]; simp; done) | (exfalso; revert hc1; rw [eqRows_refl eqW_refl]; simp; omega) | (exfalso; revert hc1; rw [eq2_refl]; simp; done) | (exfalso; revert hc1; simp [eq2]; done) | (exfalso; have h9 := of_decide_eq_true hc1; omega)
  refine wc_skip ?_
  refine px_then ?_
  refine wc_seq ?_
  refine wc_seq ?_
  refine wc_region ?_
  refine wl_v rfl (val_move (lk rfl)) ?_
  refine wl_v rfl (val_move (lk rfl)) ?_
  refine wl_callx rfl ci_14 (args1 (lk rfl)) (fun w1 hw => toRegistrationS_c _ _ _ _ _ w1 (hs.hp hw rfl) (by omega)) (fun _ => rfl) ?_
  rintro ⟨gb47, gc47, gs47⟩ ⟨hgl47, hgc47⟩
  refine wl_call gd_none rfl ci_17 (args2 (lk rfl) (lk rfl)) (fun hG w1 hw => eqRegistrationS_c _ _ _ _ _ _ _ _ _ _ w1 (Sl.own hw (.tail _ (.head _))) (Sl.own hw (.head _)) (by omega)) ?_
  refine wl_v rfl (val_not (lk rfl)) ?_
  refine wl_nil ?_
  refine px_then ?_
  refine wc_cond (lk rfl) (fun hc2 => ?_) (fun hc2 => ?_)
  · refine wc_seq ?_
    refine wc_region ?_
    refine wl_v rfl (val_assign lkc) ?_
    refine wl_nil ?_
    refine px_then ?_
    refine wc_ret ?_
    refine px_then_ret ?_
    refine fin1 rfl (res_tmp rfl) (fun w1 hw => ?_)
    first | exact ⟨rfl, hw.drop rfl⟩ | (exfalso; revert hc2; simp; done) | (exfalso; revert hc2; simp; omega) | (exfalso; revert hc2; rw [eqRows_refl eqW_refl]; simp; done) | (exfalso; revert hc2; rw [eqRows_refl eqW_refl]; simp; omega) | (exfalso; revert hc2; rw [eq2_refl]; simp; done) | (exfalso; revert hc2; simp [eq2]; done) | (exfalso; have h9 := of_decide_eq_true hc2; omega)
  refine wc_skip ?_
  refine px_then ?_
  refine wc_seq ?_
  refine wc_region ?_
  refine wl_v rfl (val_assign lkc) ?_
  refine wl_nil ?_
  refine px_then ?_
  refine wc_ret ?_
  refine fin1 rfl (res_tmp rfl) (fun w1 hw => ?_)
  first | exact ⟨rfl, hw.drop rfl⟩ | (exfalso; revert hc2; simp; done) | (exfalso; revert hc2; simp; omega) | (exfalso; revert hc2; rw [eqRows_refl eqW_refl]; simp; done) | (exfalso; revert hc2; rw [eqRows_refl eqW_refl]; simp; omega) | (exfalso; revert hc2; rw [eq2_refl]; simp; done) | (exfalso; revert hc2; simp [eq2]; done) | (exfalso; have h9 := of_decide_eq_true hc2; omega)

theorem law_AreValidRegistrations (rs : List Reg) (A : Option Addr) (b o c : Nat) (w : World) (hs : Sl w A b o (flat encW rs)) (hm : rs.length ≤ 9223372036854775807) :
    Calls Try.prog 8 #[.slice A rs.length c] w fun e w' => e = .returned (.bool true) ∧ HP w [] w' := by
  refine calls_entry [] _ Try.func8 rfl Try.ntmps8 (HP.refl w) (env1 rfl) ?_
  refine wc_seq ?_
  refine wc_region ?_
  refine wl_v rfl (val_assign lkc) ?_
  refine wl_nil ?_
  refine px_then ?_
  refine wc_seq ?_
  refine wc_region ?_
  refine wl_v rfl (val_assign lkc) ?_
  refine wl_nil ?_
  refine px_then ?_
  refine wc_seq ?_
  refine wc_region ?_
  refine wl_v rfl (val_move (lk rfl)) ?_
  refine wl_v rfl (val_move (lk rfl)) ?_
  refine wl_call gd_none rfl ci_12 (args2 (lk rfl) (lk rfl)) (fun hG w1 hw => szRegistrationS_c _ _ _ _ w1 (by omega) (by omega)) ?_
  refine wl_v rfl (val_assign (lk rfl)) ?_
  refine wl_nil ?_
  refine px_then ?_
  refine wc_seq ?_
  refine wc_seq ?_
  refine wc_region ?_
  refine wl_v rfl (val_move (lk rfl)) ?_
  refine wl_v rfl (val_lss (lk rfl) lkc) ?_
  refine wl_nil ?_
  refine px_then ?_
  refine wc_cond (lk rfl) (fun hc0 => ?_) (fun hc0 => ?_)
  · refine wc_seq ?_
    refine wc_region ?_
    refine wl_v rfl (val_assign lkc) ?_
    refine wl_nil ?_
    refine px_then ?_
    refine wc_ret ?_
    refine px_then_ret ?_
    refine fin1 rfl (res_tmp rfl) (fun w1 hw => ?_)
    first | exact ⟨rfl, hw.drop rfl⟩ | (exfalso; revert hc0; simp; done) | (exfalso; revert hc0; simp; omega) | (exfalso; revert hc0; rw [eqRows_refl eqW_refl]; simp; done) | (exfalso; revert hc0; rw [eqRows_refl eqW_refl]; simp; omega) | (exfalso; revert hc0; rw [eq2_refl]; simp; done) | (exfalso; revert hc0; simp [eq2]; done) | (exfalso; have h9 := of_decide_eq_true hc0; omega)
  have hl : rs.length ≤ 1048576 := by have h9 := of_decide_eq_false hc0; unfold szN at h9; split at h9 <;> omega
  refine wc_skip ?_
  refine px_then ?_
  refine wc_seq ?_
  refine wc_region ?_
  refine wl_v rfl (val_move (lk rfl)) ?_
  refine wl_callx rfl ci_14 (args1 (lk rfl)) (fun w1 hw => toRegistrationS_c _ _ _ _ _ w1 (hs.hp hw rfl) (by omega)) (fun _ => rfl) ?_
  rintro ⟨gb13, gc13, gs13⟩ ⟨hgl13, hgc13⟩
  refine wl_call gd_none rfl ci_28 (args1 (lk rfl)) (fun hG w1 hw => sOkRegs_c rs _ _ _ _ w1 (Sl.own hw (.head _)) (by omega) (cap_le encW_len (by decide) hgl13)) ?_
  refine wl_v rfl (val_assign (lk rfl)) ?_
  refine wl_nil ?_
  refine px_then ?_
  refine wc_seq ?_
  refine wc_region ?_
  refine wl_v rfl (val_move (lk rfl)) ?_
  refine wl_callx rfl ci_14 (args1 (lk rfl)) (fun w1 hw => toRegistrationS_c _ _ _ _ _ w1 (hs.hp hw rfl) (by omega)) (fun _ => rfl) ?_
  rintro ⟨gb16, gc16, gs16⟩ ⟨hgl16, hgc16⟩
  refine wl_v rfl (val_assign (lk rfl)) ?_
  refine wl_nil ?_
  refine px_then ?_
  refine wc_seq ?_
  refine wc_region ?_
  refine wl_v rfl (val_move (lk rfl)) ?_
  refine wl_call gd_none rfl ci_29 (args1 (lk rfl)) (fun hG w1 hw => OkRegs_c rs _ _ _ _ w1 (Sl.own hw (.head _)) (by omega) (cap_le encW_len (by decide) hgl16)) ?_
  refine wl_v rfl (val_assign (lk rfl)) ?_
  refine wl_nil ?_
  refine px_then ?_
  refine wc_seq ?_
  refine wc_seq ?_
  refine wc_region ?_
  refine wl_v rfl (val_move (lk rfl)) ?_
  refine wl_v rfl (val_move (lk rfl)) ?_
  refine wl_v rfl (val_neqB Try.underlying4 (lk rfl) (lk rfl)) ?_
  refine wl_nil ?_
  refine px_then ?_
  refine wc_cond (lk rfl) (fun hc1 => ?_) (fun hc1 => ?_)
  · refine wc_seq ?_
    refine wc_region ?_
    refine wl_v rfl (val_assign lkc) ?_
    refine wl_nil ?_
    refine px_then ?_
    refine wc_ret ?_
    refine px_then_ret ?_
    refine fin1 rfl (res_tmp rfl) (fun w1 hw => ?_)
    first | exact ⟨rfl, hw.drop rfl⟩ | (exfalso; revert hc1; simp; done) | (exfalso; revert hc1; simp; omega) | (exfalso; revert hc1; rw [eqRows_refl eqW_refl]; simp; done) | (exfalso; revert hc1; rw [eqRows_refl eqW_refl]; simp; omega) | (exfalso; revert hc1; rw [eq2_refl]; simp; done) | (exfalso; revert hc1; simp [eq2]; done) | (exfalso; have h9 := of_decide_eq_true hc1; omega)
  refine wc_skip ?_
  refine px_then ?_
  refine wc_seq ?_
  refine wc_seq ?_
  refine wc_region ?_
  refine wl_v rfl (val_move (lk rfl)) ?_
  refine wl_v rfl (val_move (lk rfl)) ?_
  refine wl_callx rfl ci_14 (args1 (lk rfl)) (fun w1 hw => toRegistrationS_c _ _ _ _ _ w1 (hs.hp hw rfl) (by omega)) (fun _ => rfl) ?_
  rintro ⟨gb24, gc24, gs24⟩ ⟨hgl24, hgc24⟩
  refine wl_call gd_none rfl ci_17 (args2 (lk rfl) (lk rfl)) (fun hG w1 hw => eqRegistrationS_c _ _ _ _ _ _ _ _ _ _ w1 (Sl.own hw (.tail _ (.head _))) (Sl.own hw (.head _)) (by omega)) ?_
  refine wl_v rfl (val_not (lk rfl)) ?_
  refine wl_nil ?_
  refine px_then ?_
  refine wc_cond (lk rfl) (fun hc2 => ?_) (fun hc2 => ?_)
  · refine wc_seq ?_
    refine wc_region ?_
    refine wl_v rfl (val_assign lkc) ?_
    refine wl_nil ?_
    refine px_then ?_
    refine wc_ret ?_
    refine px_then_ret ?_
    refine fin1 rfl (res_tmp rfl) (fun w1 hw => ?_)
    first | exact ⟨rfl, hw.drop rfl⟩ | (exfalso; revert hc2; simp; done) | (exfalso; revert hc2; simp; omega) | (exfalso; revert hc2; rw [eqRows_refl eqW_refl]; simp; done) | (exfalso; revert hc2; rw [eqRows_refl eqW_refl]; simp; omega) | (exfalso; revert hc2; rw [eq2_refl]; simp; done) | (exfalso; revert hc2; simp [eq2]; done) | (exfalso; have h9 := of_decide_eq_true hc2; omega)
  refine wc_skip ?_
  refine px_then ?_
  refine wc_seq ?_
  refine wc_region ?_
  refine wl_v rfl (val_assign lkc) ?_
  refine wl_nil ?_
  refine px_then ?_
  refine wc_ret ?_
  refine fin1 rfl (res_tmp rfl) (fun w1 hw => ?_)
  first | exact ⟨rfl, hw.drop rfl⟩ | (exfalso; revert hc2; simp; done) | (exfalso; revert hc2; simp; omega) | (exfalso; revert hc2; rw [eqRows_refl eqW_refl]; simp; done) | (exfalso; revert hc2; rw [eqRows_refl eqW_refl]; simp; omega) | (exfalso; revert hc2; rw [eq2_refl]; simp; done) | (exfalso; revert hc2; simp [eq2]; done) | (exfalso; have h9 := of_decide_eq_true hc2; omega)

end Go.Proofs.Ytmjpiihopgckpaa
