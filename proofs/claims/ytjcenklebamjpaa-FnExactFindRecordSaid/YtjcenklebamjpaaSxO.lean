/- The laws on records and agreements that only read: walked. -/
import Derived.Test.YtjcenklebamjpaaSxN
namespace Go.Proofs.Ytjcenklebamjpaa
open Go.RowKit

theorem law_IsValidRecord (r : Rec) (w : World) :
    Calls Try.prog 4 #[.agg (recV encU r).toArray] w fun e w' => e = .returned (.bool true) ∧ HP w [] w' := by
  refine calls_entry [] _ Try.func4 rfl Try.ntmps4 (HP.refl w) (env1 rfl) ?_
  refine wc_seq ?_
  refine wc_region ?_
  refine wl_box (lk rfl) rfl fun b1 => ?_
  refine wl_v rfl (val_assign lkc) ?_
  refine wl_nil ?_
  refine px_then ?_
  refine wc_seq ?_
  refine wc_region ?_
  refine wl_v rfl (val_loadB (.head _) (lk rfl) ag_29) ?_
  refine wl_call gd_none rfl ci_19 (args1 (lk rfl)) (fun hG w1 hw => toUsageRecord_c _ w1) ?_
  refine wl_call gd_none rfl ci_18 (args1 (lk rfl)) (fun hG w1 hw => sokU_c _ w1) ?_
  refine wl_v rfl (val_assign (lk rfl)) ?_
  refine wl_nil ?_
  refine px_then ?_
  refine wc_seq ?_
  refine wc_region ?_
  refine wl_v rfl (val_loadB (.head _) (lk rfl) ag_29) ?_
  refine wl_call gd_none rfl ci_19 (args1 (lk rfl)) (fun hG w1 hw => toUsageRecord_c _ w1) ?_
  refine wl_call gd_none rfl ci_20 (args1 (lk rfl)) (fun hG w1 hw => okU_c _ w1) ?_
  refine wl_v rfl (val_assign (lk rfl)) ?_
  refine wl_nil ?_
  refine px_then ?_
  refine wc_seq ?_
  refine wc_seq ?_
  refine wc_region ?_
  refine wl_v rfl (val_move (lk rfl)) ?_
  refine wl_v rfl (val_move (lk rfl)) ?_
  refine wl_v rfl (val_neqB Try.underlying4 (lk rfl) (lk rfl)) ?_
  refine wl_nil ?_
  refine px_then ?_
  refine wc_cond (lk rfl) (fun hc0 => ?_) (fun hc0 => ?_)
  · refine wc_seq ?_
    refine wc_region ?_
    refine wl_v rfl (val_assign lkc) ?_
    refine wl_nil ?_
    refine px_then ?_
    refine wc_ret ?_
    refine px_then_ret ?_
    refine fin1 rfl (res_tmp rfl) (fun w1 hw => ?_)
    exact ⟨by simp_all, hw.drop rfl⟩
  refine wc_skip ?_
  refine px_then ?_
  refine wc_seq ?_
  refine wc_region ?_
  refine wl_v rfl (val_assign lkc) ?_
  refine wl_nil ?_
  refine px_then ?_
  refine wc_ret ?_
  refine fin1 rfl (res_tmp rfl) (fun w1 hw => ?_)
  exact ⟨by simp_all, hw.drop rfl⟩

theorem law_IsValidAgreement (d : Agr) (w : World) :
    Calls Try.prog 3 #[.agg (recV encG d).toArray] w fun e w' => e = .returned (.bool true) ∧ HP w [] w' := by
  refine calls_entry [] _ Try.func3 rfl Try.ntmps3 (HP.refl w) (env1 rfl) ?_
  refine wc_seq ?_
  refine wc_region ?_
  refine wl_box (lk rfl) rfl fun b1 => ?_
  refine wl_v rfl (val_assign lkc) ?_
  refine wl_nil ?_
  refine px_then ?_
  refine wc_seq ?_
  refine wc_region ?_
  refine wl_v rfl (val_loadB (.head _) (lk rfl) ag_23) ?_
  refine wl_call gd_none rfl ci_16 (args1 (lk rfl)) (fun hG w1 hw => toRoamingAgreement_c _ w1) ?_
  refine wl_call gd_none rfl ci_15 (args1 (lk rfl)) (fun hG w1 hw => sokG_c _ w1) ?_
  refine wl_v rfl (val_assign (lk rfl)) ?_
  refine wl_nil ?_
  refine px_then ?_
  refine wc_seq ?_
  refine wc_region ?_
  refine wl_v rfl (val_loadB (.head _) (lk rfl) ag_23) ?_
  refine wl_call gd_none rfl ci_16 (args1 (lk rfl)) (fun hG w1 hw => toRoamingAgreement_c _ w1) ?_
  refine wl_call gd_none rfl ci_17 (args1 (lk rfl)) (fun hG w1 hw => okG_c _ w1) ?_
  refine wl_v rfl (val_assign (lk rfl)) ?_
  refine wl_nil ?_
  refine px_then ?_
  refine wc_seq ?_
  refine wc_seq ?_
  refine wc_region ?_
  refine wl_v rfl (val_move (lk rfl)) ?_
  refine wl_v rfl (val_move (lk rfl)) ?_
  refine wl_v rfl (val_neqB Try.underlying4 (lk rfl) (lk rfl)) ?_
  refine wl_nil ?_
  refine px_then ?_
  refine wc_cond (lk rfl) (fun hc0 => ?_) (fun hc0 => ?_)
  · refine wc_seq ?_
    refine wc_region ?_
    refine wl_v rfl (val_assign lkc) ?_
    refine wl_nil ?_
    refine px_then ?_
    refine wc_ret ?_
    refine px_then_ret ?_
    refine fin1 rfl (res_tmp rfl) (fun w1 hw => ?_)
    exact ⟨by simp_all, hw.drop rfl⟩
  refine wc_skip ?_
  refine px_then ?_
  refine wc_seq ?_
  refine wc_region ?_
  refine wl_v rfl (val_assign lkc) ?_
  refine wl_nil ?_
  refine px_then ?_
  refine wc_ret ?_
  refine fin1 rfl (res_tmp rfl) (fun w1 hw => ?_)
  exact ⟨by simp_all, hw.drop rfl⟩

theorem law_FindAgreement (ds : List Agr) (A : Option Addr) (b o c : Nat) (hh v : Int) (w : World) (hs : Sl w A b o (flat encG ds)) (hm : ds.length ≤ 9223372036854775807) :
    Calls Try.prog 5 #[.slice A ds.length c, .int .i64 hh, .int .i64 v] w fun e w' => e = .returned (.bool true) ∧ HP w [] w' := by
  refine calls_entry [] _ Try.func5 rfl Try.ntmps5 (HP.refl w) (env3 rfl) ?_
  refine wc_seq ?_
  refine wc_region ?_
  refine wl_v rfl (val_assign lkc) ?_
  refine wl_nil ?_
  refine px_then ?_
  refine wc_seq ?_
  refine wc_region ?_
  refine wl_v rfl (val_assign lkc) ?_
  refine wl_nil ?_
  refine px_then ?_
  refine wc_seq ?_
  refine wc_region ?_
  refine wl_v rfl (val_move (lk rfl)) ?_
  refine wl_v rfl (val_move (lk rfl)) ?_
  refine wl_call gd_none rfl ci_21 (args2 (lk rfl) (lk rfl)) (fun hG w1 hw => szRoamingAgreementS_c _ _ _ _ w1 (by omega) hm) ?_
  refine wl_v rfl (val_assign (lk rfl)) ?_
  refine wl_nil ?_
  refine px_then ?_
  refine wc_seq ?_
  refine wc_seq ?_
  refine wc_region ?_
  refine wl_v rfl (val_move (lk rfl)) ?_
  refine wl_v rfl (val_lss (lk rfl) lkc) ?_
  refine wl_nil ?_
  refine px_then ?_
  refine wc_cond (lk rfl) (fun hc0 => ?_) (fun hc0 => ?_)
  · refine wc_seq ?_
    refine wc_region ?_
    refine wl_v rfl (val_assign lkc) ?_
    refine wl_nil ?_
    refine px_then ?_
    refine wc_ret ?_
    refine px_then_ret ?_
    refine fin1 rfl (res_tmp rfl) (fun w1 hw => ?_)
    first | exact ⟨rfl, hw.drop rfl⟩ | (exfalso; revert hc0; simp; done) | (exfalso; revert hc0; rw [eqRows_refl eqU_refl]; simp; done) | (exfalso; revert hc0; rw [eqRows_refl eqG_refl]; simp; done) | (exfalso; revert hc0; simp [eqRows_refl eqU_refl]; done) | (exfalso; revert hc0; simp [eqRows_refl eqG_refl]; done)
  have hl : ds.length ≤ 1048576 := by have h9 := of_decide_eq_false hc0; unfold szN at h9; split at h9 <;> omega
  refine wc_skip ?_
  refine px_then ?_
  refine wc_seq ?_
  refine wc_region ?_
  refine wl_v rfl (val_move (lk rfl)) ?_
  refine wl_callx rfl ci_23 (args1 (lk rfl)) (fun w1 hw => toRoamingAgreementS_c ds _ _ _ _ w1 (hs.hp hw rfl) (by omega)) (fun _ => rfl) ?_
  rintro ⟨gb17, gc17, gs17⟩ ⟨hgl17, hgc17⟩
  refine wl_v rfl (val_move (lk rfl)) ?_
  refine wl_v rfl (val_move (lk rfl)) ?_
  refine wl_call gd_none rfl ci_22 (args3 (lk rfl) (lk rfl) (lk rfl)) (fun hG w1 hw => sFindG_c ds _ _ _ _ hh v w1 (Sl.own hw (.head _)) (by omega)) ?_
  refine wl_v rfl (val_assign (lk rfl)) ?_
  refine wl_nil ?_
  refine px_then ?_
  refine wc_seq ?_
  refine wc_region ?_
  refine wl_v rfl (val_move (lk rfl)) ?_
  refine wl_callx rfl ci_23 (args1 (lk rfl)) (fun w1 hw => toRoamingAgreementS_c ds _ _ _ _ w1 (hs.hp hw rfl) (by omega)) (fun _ => rfl) ?_
  rintro ⟨gb22, gc22, gs22⟩ ⟨hgl22, hgc22⟩
  refine wl_v rfl (val_assign (lk rfl)) ?_
  refine wl_nil ?_
  refine px_then ?_
  refine wc_seq ?_
  refine wc_region ?_
  refine wl_v rfl (val_move (lk rfl)) ?_
  refine wl_v rfl (val_move (lk rfl)) ?_
  refine wl_v rfl (val_move (lk rfl)) ?_
  refine wl_call gd_none rfl ci_24 (args3 (lk rfl) (lk rfl) (lk rfl)) (fun hG w1 hw => FindG_c ds _ _ _ _ hh v w1 (Sl.own hw (.head _)) (by omega)) ?_
  refine wl_v rfl (val_assign (lk rfl)) ?_
  refine wl_nil ?_
  refine px_then ?_
  refine wc_seq ?_
  refine wc_seq ?_
  refine wc_region ?_
  refine wl_v rfl (val_move (lk rfl)) ?_
  refine wl_v rfl (val_move (lk rfl)) ?_
  refine wl_v rfl (val_neq (lk rfl) (lk rfl)) ?_
  refine wl_nil ?_
  refine px_then ?_
  refine wc_cond (lk rfl) (fun hc1 => ?_) (fun hc1 => ?_)
  · refine wc_seq ?_
    refine wc_region ?_
    refine wl_v rfl (val_assign lkc) ?_
    refine wl_nil ?_
    refine px_then ?_
    refine wc_ret ?_
    refine px_then_ret ?_
    refine fin1 rfl (res_tmp rfl) (fun w1 hw => ?_)
    first | exact ⟨rfl, hw.drop rfl⟩ | (exfalso; revert hc1; simp; done) | (exfalso; revert hc1; rw [eqRows_refl eqU_refl]; simp; done) | (exfalso; revert hc1; rw [eqRows_refl eqG_refl]; simp; done) | (exfalso; revert hc1; simp [eqRows_refl eqU_refl]; done) | (exfalso; revert hc1; simp [eqRows_refl eqG_refl]; done)
  refine wc_skip ?_
  refine px_then ?_
  refine wc_seq ?_
  refine wc_seq ?_
  refine wc_region ?_
  refine wl_v rfl (val_move (lk rfl)) ?_
  refine wl_v rfl (val_move (lk rfl)) ?_
  refine wl_callx rfl ci_23 (args1 (lk rfl)) (fun w1 hw => toRoamingAgreementS_c ds _ _ _ _ w1 (hs.hp hw rfl) (by omega)) (fun _ => rfl) ?_
  rintro ⟨gb32, gc32, gs32⟩ ⟨hgl32, hgc32⟩
  refine wl_call gd_none rfl ci_25 (args2 (lk rfl) (lk rfl)) (fun hG w1 hw => eqRoamingAgreementS_c ds ds _ _ _ _ _ _ _ _ w1 (Sl.own hw (.tail _ (.head _))) (Sl.own hw (.head _)) (by omega)) ?_
  refine wl_v rfl (val_not (lk rfl)) ?_
  refine wl_nil ?_
  refine px_then ?_
  refine wc_cond (lk rfl) (fun hc2 => ?_) (fun hc2 => ?_)
  · refine wc_seq ?_
    refine wc_region ?_
    refine wl_v rfl (val_assign lkc) ?_
    refine wl_nil ?_
    refine px_then ?_
    refine wc_ret ?_
    refine px_then_ret ?_
    refine fin1 rfl (res_tmp rfl) (fun w1 hw => ?_)
    first | exact ⟨rfl, hw.drop rfl⟩ | (exfalso; revert hc2; simp; done) | (exfalso; revert hc2; rw [eqRows_refl eqU_refl]; simp; done) | (exfalso; revert hc2; rw [eqRows_refl eqG_refl]; simp; done) | (exfalso; revert hc2; simp [eqRows_refl eqU_refl]; done) | (exfalso; revert hc2; simp [eqRows_refl eqG_refl]; done)
  refine wc_skip ?_
  refine px_then ?_
  refine wc_seq ?_
  refine wc_region ?_
  refine wl_v rfl (val_assign lkc) ?_
  refine wl_nil ?_
  refine px_then ?_
  refine wc_ret ?_
  refine fin1 rfl (res_tmp rfl) (fun w1 hw => ?_)
  first | exact ⟨rfl, hw.drop rfl⟩ | (exfalso; revert hc2; simp; done) | (exfalso; revert hc2; rw [eqRows_refl eqU_refl]; simp; done) | (exfalso; revert hc2; rw [eqRows_refl eqG_refl]; simp; done) | (exfalso; revert hc2; simp [eqRows_refl eqU_refl]; done) | (exfalso; revert hc2; simp [eqRows_refl eqG_refl]; done)

theorem law_BytesForNetwork (rs : List Rec) (A : Option Addr) (b o c : Nat) (net : Int) (w : World) (hs : Sl w A b o (flat encU rs)) (hm : rs.length ≤ 9223372036854775807) :
    Calls Try.prog 6 #[.slice A rs.length c, .int .i64 net] w fun e w' => e = .returned (.bool true) ∧ HP w [] w' := by
  refine calls_entry [] _ Try.func6 rfl Try.ntmps6 (HP.refl w) (env2 rfl) ?_
  refine wc_seq ?_
  refine wc_region ?_
  refine wl_v rfl (val_assign lkc) ?_
  refine wl_nil ?_
  refine px_then ?_
  refine wc_seq ?_
  refine wc_region ?_
  refine wl_v rfl (val_assign lkc) ?_
  refine wl_nil ?_
  refine px_then ?_
  refine wc_seq ?_
  refine wc_region ?_
  refine wl_v rfl (val_move (lk rfl)) ?_
  refine wl_v rfl (val_move (lk rfl)) ?_
  refine wl_call gd_none rfl ci_26 (args2 (lk rfl) (lk rfl)) (fun hG w1 hw => szUsageRecordS_c _ _ _ _ w1 (by omega) hm) ?_
  refine wl_v rfl (val_assign (lk rfl)) ?_
  refine wl_nil ?_
  refine px_then ?_
  refine wc_seq ?_
  refine wc_seq ?_
  refine wc_region ?_
  refine wl_v rfl (val_move (lk rfl)) ?_
  refine wl_v rfl (val_lss (lk rfl) lkc) ?_
  refine wl_nil ?_
  refine px_then ?_
  refine wc_cond (lk rfl) (fun hc0 => ?_) (fun hc0 => ?_)
  · refine wc_seq ?_
    refine wc_region ?_
    refine wl_v rfl (val_assign lkc) ?_
    refine wl_nil ?_
    refine px_then ?_
    refine wc_ret ?_
    refine px_then_ret ?_
    refine fin1 rfl (res_tmp rfl) (fun w1 hw => ?_)
    first | exact ⟨rfl, hw.drop rfl⟩ | (exfalso; revert hc0; simp; done) | (exfalso; revert hc0; rw [eqRows_refl eqU_refl]; simp; done) | (exfalso; revert hc0; rw [eqRows_refl eqG_refl]; simp; done) | (exfalso; revert hc0; simp [eqRows_refl eqU_refl]; done) | (exfalso; revert hc0; simp [eqRows_refl eqG_refl]; done)
  have hl : rs.length ≤ 1048576 := by have h9 := of_decide_eq_false hc0; unfold szN at h9; split at h9 <;> omega
  refine wc_skip ?_
  refine px_then ?_
  refine wc_seq ?_
  refine wc_region ?_
  refine wl_v rfl (val_move (lk rfl)) ?_
  refine wl_callx rfl ci_28 (args1 (lk rfl)) (fun w1 hw => toUsageRecordS_c rs _ _ _ _ w1 (hs.hp hw rfl) (by omega)) (fun _ => rfl) ?_
  rintro ⟨gb15, gc15, gs15⟩ ⟨hgl15, hgc15⟩
  refine wl_v rfl (val_move (lk rfl)) ?_
  refine wl_call gd_none rfl ci_27 (args2 (lk rfl) (lk rfl)) (fun hG w1 hw => sBytesU_c rs _ _ _ _ net w1 (Sl.own hw (.head _)) (by omega)) ?_
  refine wl_v rfl (val_assign (lk rfl)) ?_
  refine wl_nil ?_
  refine px_then ?_
  refine wc_seq ?_
  refine wc_region ?_
  refine wl_v rfl (val_move (lk rfl)) ?_
  refine wl_callx rfl ci_28 (args1 (lk rfl)) (fun w1 hw => toUsageRecordS_c rs _ _ _ _ w1 (hs.hp hw rfl) (by omega)) (fun _ => rfl) ?_
  rintro ⟨gb19, gc19, gs19⟩ ⟨hgl19, hgc19⟩
  refine wl_v rfl (val_assign (lk rfl)) ?_
  refine wl_nil ?_
  refine px_then ?_
  refine wc_seq ?_
  refine wc_region ?_
  refine wl_v rfl (val_move (lk rfl)) ?_
  refine wl_v rfl (val_move (lk rfl)) ?_
  refine wl_call gd_none rfl ci_29 (args2 (lk rfl) (lk rfl)) (fun hG w1 hw => BytesU_c rs _ _ _ _ net w1 (Sl.own hw (.head _)) (by omega)) ?_
  refine wl_v rfl (val_assign (lk rfl)) ?_
  refine wl_nil ?_
  refine px_then ?_
  refine wc_seq ?_
  refine wc_seq ?_
  refine wc_region ?_
  refine wl_v rfl (val_move (lk rfl)) ?_
  refine wl_v rfl (val_move (lk rfl)) ?_
  refine wl_v rfl (val_neq (lk rfl) (lk rfl)) ?_
  refine wl_nil ?_
  refine px_then ?_
  refine wc_cond (lk rfl) (fun hc1 => ?_) (fun hc1 => ?_)
  · refine wc_seq ?_
    refine wc_region ?_
    refine wl_v rfl (val_assign lkc) ?_
    refine wl_nil ?_
    refine px_then ?_
    refine wc_ret ?_
    refine px_then_ret ?_
    refine fin1 rfl (res_tmp rfl) (fun w1 hw => ?_)
    first | exact ⟨rfl, hw.drop rfl⟩ | (exfalso; revert hc1; simp; done) | (exfalso; revert hc1; rw [eqRows_refl eqU_refl]; simp; done) | (exfalso; revert hc1; rw [eqRows_refl eqG_refl]; simp; done) | (exfalso; revert hc1; simp [eqRows_refl eqU_refl]; done) | (exfalso; revert hc1; simp [eqRows_refl eqG_refl]; done)
  refine wc_skip ?_
  refine px_then ?_
  refine wc_seq ?_
  refine wc_seq ?_
  refine wc_region ?_
  refine wl_v rfl (val_move (lk rfl)) ?_
  refine wl_v rfl (val_move (lk rfl)) ?_
  refine wl_callx rfl ci_28 (args1 (lk rfl)) (fun w1 hw => toUsageRecordS_c rs _ _ _ _ w1 (hs.hp hw rfl) (by omega)) (fun _ => rfl) ?_
  rintro ⟨gb28, gc28, gs28⟩ ⟨hgl28, hgc28⟩
  refine wl_call gd_none rfl ci_30 (args2 (lk rfl) (lk rfl)) (fun hG w1 hw => eqUsageRecordS_c rs rs _ _ _ _ _ _ _ _ w1 (Sl.own hw (.tail _ (.head _))) (Sl.own hw (.head _)) (by omega)) ?_
  refine wl_v rfl (val_not (lk rfl)) ?_
  refine wl_nil ?_
  refine px_then ?_
  refine wc_cond (lk rfl) (fun hc2 => ?_) (fun hc2 => ?_)
  · refine wc_seq ?_
    refine wc_region ?_
    refine wl_v rfl (val_assign lkc) ?_
    refine wl_nil ?_
    refine px_then ?_
    refine wc_ret ?_
    refine px_then_ret ?_
    refine fin1 rfl (res_tmp rfl) (fun w1 hw => ?_)
    first | exact ⟨rfl, hw.drop rfl⟩ | (exfalso; revert hc2; simp; done) | (exfalso; revert hc2; rw [eqRows_refl eqU_refl]; simp; done) | (exfalso; revert hc2; rw [eqRows_refl eqG_refl]; simp; done) | (exfalso; revert hc2; simp [eqRows_refl eqU_refl]; done) | (exfalso; revert hc2; simp [eqRows_refl eqG_refl]; done)
  refine wc_skip ?_
  refine px_then ?_
  refine wc_seq ?_
  refine wc_region ?_
  refine wl_v rfl (val_assign lkc) ?_
  refine wl_nil ?_
  refine px_then ?_
  refine wc_ret ?_
  refine fin1 rfl (res_tmp rfl) (fun w1 hw => ?_)
  first | exact ⟨rfl, hw.drop rfl⟩ | (exfalso; revert hc2; simp; done) | (exfalso; revert hc2; rw [eqRows_refl eqU_refl]; simp; done) | (exfalso; revert hc2; rw [eqRows_refl eqG_refl]; simp; done) | (exfalso; revert hc2; simp [eqRows_refl eqU_refl]; done) | (exfalso; revert hc2; simp [eqRows_refl eqG_refl]; done)

theorem law_AreValidRecords (rs : List Rec) (A : Option Addr) (b o c : Nat) (w : World) (hs : Sl w A b o (flat encU rs)) (hm : rs.length ≤ 9223372036854775807) :
    Calls Try.prog 8 #[.slice A rs.length c] w fun e w' => e = .returned (.bool true) ∧ HP w [] w' := by
  refine calls_entry [] _ Try.func8 rfl Try.ntmps8 (HP.refl w) (env1 rfl) ?_
  refine wc_seq ?_
  refine wc_region ?_
  refine wl_v rfl (val_assign lkc) ?_
  refine wl_nil ?_
  refine px_then ?_
  refine wc_seq ?_
  refine wc_region ?_
  refine wl_v rfl (val_assign lkc) ?_
  refine wl_nil ?_
  refine px_then ?_
  refine wc_seq ?_
  refine wc_region ?_
  refine wl_v rfl (val_move (lk rfl)) ?_
  refine wl_v rfl (val_move (lk rfl)) ?_
  refine wl_call gd_none rfl ci_26 (args2 (lk rfl) (lk rfl)) (fun hG w1 hw => szUsageRecordS_c _ _ _ _ w1 (by omega) hm) ?_
  refine wl_v rfl (val_assign (lk rfl)) ?_
  refine wl_nil ?_
  refine px_then ?_
  refine wc_seq ?_
  refine wc_seq ?_
  refine wc_region ?_
  refine wl_v rfl (val_move (lk rfl)) ?_
  refine wl_v rfl (val_lss (lk rfl) lkc) ?_
  refine wl_nil ?_
  refine px_then ?_
  refine wc_cond (lk rfl) (fun hc0 => ?_) (fun hc0 => ?_)
  · refine wc_seq ?_
    refine wc_region ?_
    refine wl_v rfl (val_assign lkc) ?_
    refine wl_nil ?_
    refine px_then ?_
    refine wc_ret ?_
    refine px_then_ret ?_
    refine fin1 rfl (res_tmp rfl) (fun w1 hw => ?_)
    first | exact ⟨rfl, hw.drop rfl⟩ | (exfalso; revert hc0; simp; done) | (exfalso; revert hc0; rw [eqRows_refl eqU_refl]; simp; done) | (exfalso; revert hc0; rw [eqRows_refl eqG_refl]; simp; done) | (exfalso; revert hc0; simp [eqRows_refl eqU_refl]; done) | (exfalso; revert hc0; simp [eqRows_refl eqG_refl]; done)
  have hl : rs.length ≤ 1048576 := by have h9 := of_decide_eq_false hc0; unfold szN at h9; split at h9 <;> omega
  refine wc_skip ?_
  refine px_then ?_
  refine wc_seq ?_
  refine wc_region ?_
  refine wl_v rfl (val_move (lk rfl)) ?_
  refine wl_callx rfl ci_28 (args1 (lk rfl)) (fun w1 hw => toUsageRecordS_c rs _ _ _ _ w1 (hs.hp hw rfl) (by omega)) (fun _ => rfl) ?_
  rintro ⟨gb13, gc13, gs13⟩ ⟨hgl13, hgc13⟩
  refine wl_call gd_none rfl ci_33 (args1 (lk rfl)) (fun hG w1 hw => sOkAll_c rs _ _ _ _ w1 (Sl.own hw (.head _)) (by omega) (cap_le encU_len (by decide) hgl13)) ?_
  refine wl_v rfl (val_assign (lk rfl)) ?_
  refine wl_nil ?_
  refine px_then ?_
  refine wc_seq ?_
  refine wc_region ?_
  refine wl_v rfl (val_move (lk rfl)) ?_
  refine wl_callx rfl ci_28 (args1 (lk rfl)) (fun w1 hw => toUsageRecordS_c rs _ _ _ _ w1 (hs.hp hw rfl) (by omega)) (fun _ => rfl) ?_
  rintro ⟨gb16, gc16, gs16⟩ ⟨hgl16, hgc16⟩
  refine wl_v rfl (val_assign (lk rfl)) ?_
  refine wl_nil ?_
  refine px_then ?_
  refine wc_seq ?_
  refine wc_region ?_
  refine wl_v rfl (val_move (lk rfl)) ?_
  refine wl_call gd_none rfl ci_34 (args1 (lk rfl)) (fun hG w1 hw => OkAll_c rs _ _ _ _ w1 (Sl.own hw (.head _)) (by omega)) ?_
  refine wl_v rfl (val_assign (lk rfl)) ?_
  refine wl_nil ?_
  refine px_then ?_
  refine wc_seq ?_
  refine wc_seq ?_
  refine wc_region ?_
  refine wl_v rfl (val_move (lk rfl)) ?_
  refine wl_v rfl (val_move (lk rfl)) ?_
  refine wl_v rfl (val_neqB Try.underlying4 (lk rfl) (lk rfl)) ?_
  refine wl_nil ?_
  refine px_then ?_
  refine wc_cond (lk rfl) (fun hc1 => ?_) (fun hc1 => ?_)
  · refine wc_seq ?_
    refine wc_region ?_
    refine wl_v rfl (val_assign lkc) ?_
    refine wl_nil ?_
    refine px_then ?_
    refine wc_ret ?_
    refine px_then_ret ?_
    refine fin1 rfl (res_tmp rfl) (fun w1 hw => ?_)
    first | exact ⟨rfl, hw.drop rfl⟩ | (exfalso; revert hc1; simp; done) | (exfalso; revert hc1; rw [eqRows_refl eqU_refl]; simp; done) | (exfalso; revert hc1; rw [eqRows_refl eqG_refl]; simp; done) | (exfalso; revert hc1; simp [eqRows_refl eqU_refl]; done) | (exfalso; revert hc1; simp [eqRows_refl eqG_refl]; done)
  refine wc_skip ?_
  refine px_then ?_
  refine wc_seq ?_
  refine wc_seq ?_
  refine wc_region ?_
  refine wl_v rfl (val_move (lk rfl)) ?_
  refine wl_v rfl (val_move (lk rfl)) ?_
  refine wl_callx rfl ci_28 (args1 (lk rfl)) (fun w1 hw => toUsageRecordS_c rs _ _ _ _ w1 (hs.hp hw rfl) (by omega)) (fun _ => rfl) ?_
  rintro ⟨gb24, gc24, gs24⟩ ⟨hgl24, hgc24⟩
  refine wl_call gd_none rfl ci_30 (args2 (lk rfl) (lk rfl)) (fun hG w1 hw => eqUsageRecordS_c rs rs _ _ _ _ _ _ _ _ w1 (Sl.own hw (.tail _ (.head _))) (Sl.own hw (.head _)) (by omega)) ?_
  refine wl_v rfl (val_not (lk rfl)) ?_
  refine wl_nil ?_
  refine px_then ?_
  refine wc_cond (lk rfl) (fun hc2 => ?_) (fun hc2 => ?_)
  · refine wc_seq ?_
    refine wc_region ?_
    refine wl_v rfl (val_assign lkc) ?_
    refine wl_nil ?_
    refine px_then ?_
    refine wc_ret ?_
    refine px_then_ret ?_
    refine fin1 rfl (res_tmp rfl) (fun w1 hw => ?_)
    first | exact ⟨rfl, hw.drop rfl⟩ | (exfalso; revert hc2; simp; done) | (exfalso; revert hc2; rw [eqRows_refl eqU_refl]; simp; done) | (exfalso; revert hc2; rw [eqRows_refl eqG_refl]; simp; done) | (exfalso; revert hc2; simp [eqRows_refl eqU_refl]; done) | (exfalso; revert hc2; simp [eqRows_refl eqG_refl]; done)
  refine wc_skip ?_
  refine px_then ?_
  refine wc_seq ?_
  refine wc_region ?_
  refine wl_v rfl (val_assign lkc) ?_
  refine wl_nil ?_
  refine px_then ?_
  refine wc_ret ?_
  refine fin1 rfl (res_tmp rfl) (fun w1 hw => ?_)
  first | exact ⟨rfl, hw.drop rfl⟩ | (exfalso; revert hc2; simp; done) | (exfalso; revert hc2; rw [eqRows_refl eqU_refl]; simp; done) | (exfalso; revert hc2; rw [eqRows_refl eqG_refl]; simp; done) | (exfalso; revert hc2; simp [eqRows_refl eqU_refl]; done) | (exfalso; revert hc2; simp [eqRows_refl eqG_refl]; done)

theorem law_AgreedBytes (own told : List Rec) (A A2 : Option Addr) (b o c b2 o2 c2 : Nat) (vis : Int) (w : World) (hs1 : Sl w A b o (flat encU own)) (hm1 : own.length ≤ 9223372036854775807) (hs2 : Sl w A2 b2 o2 (flat encU told)) (hm2 : told.length ≤ 9223372036854775807) :
    Calls Try.prog 9 #[.slice A own.length c, .slice A2 told.length c2, .int .i64 vis] w fun e w' => e = .returned (.bool true) ∧ HP w [] w' := by
  refine calls_entry [] _ Try.func9 rfl Try.ntmps9 (HP.refl w) (env3 rfl) ?_
  refine wc_seq ?_
  refine wc_region ?_
  refine wl_v rfl (val_assign lkc) ?_
  refine wl_nil ?_
  refine px_then ?_
  refine wc_seq ?_
  refine wc_region ?_
  refine wl_v rfl (val_assign lkc) ?_
  refine wl_nil ?_
  refine px_then ?_
  refine wc_seq ?_
  refine wc_region ?_
  refine wl_v rfl (val_move (lk rfl)) ?_
  refine wl_v rfl (val_move (lk rfl)) ?_
  refine wl_call gd_none rfl ci_26 (args2 (lk rfl) (lk rfl)) (fun hG w1 hw => szUsageRecordS_c _ _ _ _ w1 (by omega) (by omega)) ?_
  refine wl_v rfl (val_assign (lk rfl)) ?_
  refine wl_nil ?_
  refine px_then ?_
  refine wc_seq ?_
  refine wc_seq ?_
  refine wc_region ?_
  refine wl_v rfl (val_move (lk rfl)) ?_
  refine wl_v rfl (val_lss (lk rfl) lkc) ?_
  refine wl_nil ?_
  refine px_then ?_
  refine wc_cond (lk rfl) (fun hc0 => ?_) (fun hc0 => ?_)
  · refine wc_seq ?_
    refine wc_region ?_
    refine wl_v rfl (val_assign lkc) ?_
    refine wl_nil ?_
    refine px_then ?_
    refine wc_ret ?_
    refine px_then_ret ?_
    refine fin1 rfl (res_tmp rfl) (fun w1 hw => ?_)
    first | exact ⟨rfl, hw.drop rfl⟩ | (exfalso; revert hc0; simp; done) | (exfalso; revert hc0; rw [eqRows_refl eqU_refl]; simp; done) | (exfalso; revert hc0; rw [eqRows_refl eqG_refl]; simp; done) | (exfalso; revert hc0; simp [eqRows_refl eqU_refl]; done) | (exfalso; revert hc0; simp [eqRows_refl eqG_refl]; done)
  have hl1 : own.length ≤ 1048576 := by have h9 := of_decide_eq_false hc0; unfold szN at h9; split at h9 <;> omega
  have hz : 0 ≤ szN 1048576 own.length ∧ szN 1048576 own.length ≤ 1048576 := by have h9 := of_decide_eq_false hc0; unfold szN at h9 ⊢; split at h9 <;> rename_i hq <;> simp only [hq] <;> simp <;> omega
  refine wc_skip ?_
  refine px_then ?_
  refine wc_seq ?_
  refine wc_region ?_
  refine wl_v rfl (val_move (lk rfl)) ?_
  refine wl_v rfl (val_move (lk rfl)) ?_
  refine wl_call gd_none rfl ci_26 (args2 (lk rfl) (lk rfl)) (fun hG w1 hw => szUsageRecordS_c _ _ _ _ w1 (by omega) (by omega)) ?_
  refine wl_v rfl (val_assign (lk rfl)) ?_
  refine wl_nil ?_
  refine px_then ?_
  refine wc_seq ?_
  refine wc_seq ?_
  refine wc_region ?_
  refine wl_v rfl (val_move (lk rfl)) ?_
  refine wl_v rfl (val_lss (lk rfl) lkc) ?_
  refine wl_nil ?_
  refine px_then ?_
  refine wc_cond (lk rfl) (fun hc1 => ?_) (fun hc1 => ?_)
  · refine wc_seq ?_
    refine wc_region ?_
    refine wl_v rfl (val_assign lkc) ?_
    refine wl_nil ?_
    refine px_then ?_
    refine wc_ret ?_
    refine px_then_ret ?_
    refine fin1 rfl (res_tmp rfl) (fun w1 hw => ?_)
    first | exact ⟨rfl, hw.drop rfl⟩ | (exfalso; revert hc1; simp; done) | (exfalso; revert hc1; rw [eqRows_refl eqU_refl]; simp; done) | (exfalso; revert hc1; rw [eqRows_refl eqG_refl]; simp; done) | (exfalso; revert hc1; simp [eqRows_refl eqU_refl]; done) | (exfalso; revert hc1; simp [eqRows_refl eqG_refl]; done)
  have hl2 : told.length ≤ 1048576 := by have h9 := of_decide_eq_false hc1; unfold szN at h9; split at h9 <;> omega
  refine wc_skip ?_
  refine px_then ?_
  refine wc_seq ?_
  refine wc_region ?_
  refine wl_v rfl (val_move (lk rfl)) ?_
  refine wl_callx rfl ci_28 (args1 (lk rfl)) (fun w1 hw => toUsageRecordS_c own _ _ _ _ w1 (hs1.hp hw rfl) (by omega)) (fun _ => rfl) ?_
  rintro ⟨gb23, gc23, gs23⟩ ⟨hgl23, hgc23⟩
  refine wl_v rfl (val_move (lk rfl)) ?_
  refine wl_callx rfl ci_28 (args1 (lk rfl)) (fun w1 hw => toUsageRecordS_c told _ _ _ _ w1 (hs2.hp hw rfl) (by omega)) (fun _ => rfl) ?_
  rintro ⟨gb25, gc25, gs25⟩ ⟨hgl25, hgc25⟩
  refine wl_v rfl (val_move (lk rfl)) ?_
  refine wl_call gd_none rfl ci_35 (args3 (lk rfl) (lk rfl) (lk rfl)) (fun hG w1 hw => sAgree_c own told _ _ _ _ _ _ _ _ vis w1 (Sl.own hw (.tail _ (.head _))) (Sl.own hw (.head _)) (by omega) (by omega)) ?_
  refine wl_v rfl (val_assign (lk rfl)) ?_
  refine wl_nil ?_
  refine px_then ?_
  refine wc_seq ?_
  refine wc_region ?_
  refine wl_v rfl (val_move (lk rfl)) ?_
  refine wl_callx rfl ci_28 (args1 (lk rfl)) (fun w1 hw => toUsageRecordS_c own _ _ _ _ w1 (hs1.hp hw rfl) (by omega)) (fun _ => rfl) ?_
  rintro ⟨gb29, gc29, gs29⟩ ⟨hgl29, hgc29⟩
  refine wl_v rfl (val_assign (lk rfl)) ?_
  refine wl_nil ?_
  refine px_then ?_
  refine wc_seq ?_
  refine wc_region ?_
  refine wl_v rfl (val_move (lk rfl)) ?_
  refine wl_callx rfl ci_28 (args1 (lk rfl)) (fun w1 hw => toUsageRecordS_c told _ _ _ _ w1 (hs2.hp hw rfl) (by omega)) (fun _ => rfl) ?_
  rintro ⟨gb31, gc31, gs31⟩ ⟨hgl31, hgc31⟩
  refine wl_v rfl (val_assign (lk rfl)) ?_
  refine wl_nil ?_
  refine px_then ?_
  refine wc_seq ?_
  refine wc_region ?_
  refine wl_v rfl (val_move (lk rfl)) ?_
  refine wl_v rfl (val_move (lk rfl)) ?_
  refine wl_v rfl (val_move (lk rfl)) ?_
  refine wl_call gd_none rfl ci_36 (args3 (lk rfl) (lk rfl) (lk rfl)) (fun hG w1 hw => Agree_c own told _ _ _ _ _ _ _ _ vis w1 (Sl.own hw (.tail _ (.head _))) (Sl.own hw (.head _)) (by omega) (by omega)) ?_
  refine wl_v rfl (val_assign (lk rfl)) ?_
  refine wl_nil ?_
  refine px_then ?_
  refine wc_seq ?_
  refine wc_seq ?_
  refine wc_region ?_
  refine wl_v rfl (val_move (lk rfl)) ?_
  refine wl_v rfl (val_move (lk rfl)) ?_
  refine wl_v rfl (val_neq (lk rfl) (lk rfl)) ?_
  refine wl_nil ?_
  refine px_then ?_
  refine wc_cond (lk rfl) (fun hc2 => ?_) (fun hc2 => ?_)
  · refine wc_seq ?_
    refine wc_region ?_
    refine wl_v rfl (val_assign lkc) ?_
    refine wl_nil ?_
    refine px_then ?_
    refine wc_ret ?_
    refine px_then_ret ?_
    refine fin1 rfl (res_tmp rfl) (fun w1 hw => ?_)
    first | exact ⟨rfl, hw.drop rfl⟩ | (exfalso; revert hc2; simp; done) | (exfalso; revert hc2; rw [eqRows_refl eqU_refl]; simp; done) | (exfalso; revert hc2; rw [eqRows_refl eqG_refl]; simp; done) | (exfalso; revert hc2; simp [eqRows_refl eqU_refl]; done) | (exfalso; revert hc2; simp [eqRows_refl eqG_refl]; done)
  refine wc_skip ?_
  refine px_then ?_
  refine wc_seq ?_
  refine wc_seq ?_
  refine wc_region ?_
  refine wl_v rfl (val_move (lk rfl)) ?_
  refine wl_v rfl (val_move (lk rfl)) ?_
  refine wl_callx rfl ci_28 (args1 (lk rfl)) (fun w1 hw => toUsageRecordS_c own _ _ _ _ w1 (hs1.hp hw rfl) (by omega)) (fun _ => rfl) ?_
  rintro ⟨gb41, gc41, gs41⟩ ⟨hgl41, hgc41⟩
  refine wl_call gd_none rfl ci_30 (args2 (lk rfl) (lk rfl)) (fun hG w1 hw => eqUsageRecordS_c own own _ _ _ _ _ _ _ _ w1 (Sl.own hw (.tail _ (.tail _ (.head _)))) (Sl.own hw (.head _)) (by omega)) ?_
  refine wl_v rfl (val_not (lk rfl)) ?_
  refine wl_nil ?_
  refine px_then ?_
  refine wc_cond (lk rfl) (fun hc3 => ?_) (fun hc3 => ?_)
  · refine wc_seq ?_
    refine wc_region ?_
    refine wl_v rfl (val_assign lkc) ?_
    refine wl_nil ?_
    refine px_then ?_
    refine wc_ret ?_
    refine px_then_ret ?_
    refine fin1 rfl (res_tmp rfl) (fun w1 hw => ?_)
    first | exact ⟨rfl, hw.drop rfl⟩ | (exfalso; revert hc3; simp; done) | (exfalso; revert hc3; rw [eqRows_refl eqU_refl]; simp; done) | (exfalso; revert hc3; rw [eqRows_refl eqG_refl]; simp; done) | (exfalso; revert hc3; simp [eqRows_refl eqU_refl]; done) | (exfalso; revert hc3; simp [eqRows_refl eqG_refl]; done)
  refine wc_skip ?_
  refine px_then ?_
  refine wc_seq ?_
  refine wc_seq ?_
  refine wc_region ?_
  refine wl_v rfl (val_move (lk rfl)) ?_
  refine wl_v rfl (val_move (lk rfl)) ?_
  refine wl_callx rfl ci_28 (args1 (lk rfl)) (fun w1 hw => toUsageRecordS_c told _ _ _ _ w1 (hs2.hp hw rfl) (by omega)) (fun _ => rfl) ?_
  rintro ⟨gb46, gc46, gs46⟩ ⟨hgl46, hgc46⟩
  refine wl_call gd_none rfl ci_30 (args2 (lk rfl) (lk rfl)) (fun hG w1 hw => eqUsageRecordS_c told told _ _ _ _ _ _ _ _ w1 (Sl.own hw (.tail _ (.tail _ (.head _)))) (Sl.own hw (.head _)) (by omega)) ?_
  refine wl_v rfl (val_not (lk rfl)) ?_
  refine wl_nil ?_
  refine px_then ?_
  refine wc_cond (lk rfl) (fun hc4 => ?_) (fun hc4 => ?_)
  · refine wc_seq ?_
    refine wc_region ?_
    refine wl_v rfl (val_assign lkc) ?_
    refine wl_nil ?_
    refine px_then ?_
    refine wc_ret ?_
    refine px_then_ret ?_
    refine fin1 rfl (res_tmp rfl) (fun w1 hw => ?_)
    first | exact ⟨rfl, hw.drop rfl⟩ | (exfalso; revert hc4; simp; done) | (exfalso; revert hc4; rw [eqRows_refl eqU_refl]; simp; done) | (exfalso; revert hc4; rw [eqRows_refl eqG_refl]; simp; done) | (exfalso; revert hc4; simp [eqRows_refl eqU_refl]; done) | (exfalso; revert hc4; simp [eqRows_refl eqG_refl]; done)
  refine wc_skip ?_
  refine px_then ?_
  refine wc_seq ?_
  refine wc_region ?_
  refine wl_v rfl (val_assign lkc) ?_
  refine wl_nil ?_
  refine px_then ?_
  refine wc_ret ?_
  refine fin1 rfl (res_tmp rfl) (fun w1 hw => ?_)
  first | exact ⟨rfl, hw.drop rfl⟩ | (exfalso; revert hc4; simp; done) | (exfalso; revert hc4; rw [eqRows_refl eqU_refl]; simp; done) | (exfalso; revert hc4; rw [eqRows_refl eqG_refl]; simp; done) | (exfalso; revert hc4; simp [eqRows_refl eqU_refl]; done) | (exfalso; revert hc4; simp [eqRows_refl eqG_refl]; done)

theorem law_AmountOwed (d : Agr) (own told : List Rec) (A A2 : Option Addr) (b o c b2 o2 c2 : Nat) (w : World) (hs1 : Sl w A b o (flat encU own)) (hm1 : own.length ≤ 9223372036854775807) (hs2 : Sl w A2 b2 o2 (flat encU told)) (hm2 : told.length ≤ 9223372036854775807) :
    Calls Try.prog 12 #[.agg (recV encG d).toArray, .slice A own.length c, .slice A2 told.length c2] w fun e w' => e = .returned (.bool true) ∧ HP w [] w' := by
  refine calls_entry [] _ Try.func12 rfl Try.ntmps12 (HP.refl w) (env3 rfl) ?_
  refine wc_seq ?_
  refine wc_region ?_
  refine wl_box (lk rfl) rfl fun b1 => ?_
  refine wl_v rfl (val_assign lkc) ?_
  refine wl_nil ?_
  refine px_then ?_
  refine wc_seq ?_
  refine wc_region ?_
  refine wl_v rfl (val_assign lkc) ?_
  refine wl_nil ?_
  refine px_then ?_
  refine wc_seq ?_
  refine wc_region ?_
  refine wl_v rfl (val_move (lk rfl)) ?_
  refine wl_v rfl (val_move (lk rfl)) ?_
  refine wl_call gd_none rfl ci_26 (args2 (lk rfl) (lk rfl)) (fun hG w1 hw => szUsageRecordS_c _ _ _ _ w1 (by omega) (by omega)) ?_
  refine wl_v rfl (val_assign (lk rfl)) ?_
  refine wl_nil ?_
  refine px_then ?_
  refine wc_seq ?_
  refine wc_seq ?_
  refine wc_region ?_
  refine wl_v rfl (val_move (lk rfl)) ?_
  refine wl_v rfl (val_lss (lk rfl) lkc) ?_
  refine wl_nil ?_
  refine px_then ?_
  refine wc_cond (lk rfl) (fun hc0 => ?_) (fun hc0 => ?_)
  · refine wc_seq ?_
    refine wc_region ?_
    refine wl_v rfl (val_assign lkc) ?_
    refine wl_nil ?_
    refine px_then ?_
    refine wc_ret ?_
    refine px_then_ret ?_
    refine fin1 rfl (res_tmp rfl) (fun w1 hw => ?_)
    first | exact ⟨rfl, hw.drop rfl⟩ | (exfalso; revert hc0; simp; done) | (exfalso; revert hc0; rw [eqRows_refl eqU_refl]; simp; done) | (exfalso; revert hc0; rw [eqRows_refl eqG_refl]; simp; done) | (exfalso; revert hc0; simp [eqRows_refl eqU_refl]; done) | (exfalso; revert hc0; simp [eqRows_refl eqG_refl]; done)
  have hl1 : own.length ≤ 1048576 := by have h9 := of_decide_eq_false hc0; unfold szN at h9; split at h9 <;> omega
  have hz : 0 ≤ szN 1048576 own.length ∧ szN 1048576 own.length ≤ 1048576 := by have h9 := of_decide_eq_false hc0; unfold szN at h9 ⊢; split at h9 <;> rename_i hq <;> simp only [hq] <;> simp <;> omega
  refine wc_skip ?_
  refine px_then ?_
  refine wc_seq ?_
  refine wc_region ?_
  refine wl_v rfl (val_move (lk rfl)) ?_
  refine wl_v rfl (val_move (lk rfl)) ?_
  refine wl_call gd_none rfl ci_26 (args2 (lk rfl) (lk rfl)) (fun hG w1 hw => szUsageRecordS_c _ _ _ _ w1 (by omega) (by omega)) ?_
  refine wl_v rfl (val_assign (lk rfl)) ?_
  refine wl_nil ?_
  refine px_then ?_
  refine wc_seq ?_
  refine wc_seq ?_
  refine wc_region ?_
  refine wl_v rfl (val_move (lk rfl)) ?_
  refine wl_v rfl (val_lss (lk rfl) lkc) ?_
  refine wl_nil ?_
  refine px_then ?_
  refine wc_cond (lk rfl) (fun hc1 => ?_) (fun hc1 => ?_)
  · refine wc_seq ?_
    refine wc_region ?_
    refine wl_v rfl (val_assign lkc) ?_
    refine wl_nil ?_
    refine px_then ?_
    refine wc_ret ?_
    refine px_then_ret ?_
    refine fin1 rfl (res_tmp rfl) (fun w1 hw => ?_)
    first | exact ⟨rfl, hw.drop rfl⟩ | (exfalso; revert hc1; simp; done) | (exfalso; revert hc1; rw [eqRows_refl eqU_refl]; simp; done) | (exfalso; revert hc1; rw [eqRows_refl eqG_refl]; simp; done) | (exfalso; revert hc1; simp [eqRows_refl eqU_refl]; done) | (exfalso; revert hc1; simp [eqRows_refl eqG_refl]; done)
  have hl2 : told.length ≤ 1048576 := by have h9 := of_decide_eq_false hc1; unfold szN at h9; split at h9 <;> omega
  refine wc_skip ?_
  refine px_then ?_
  refine wc_seq ?_
  refine wc_region ?_
  refine wl_v rfl (val_loadB (.head _) (lk rfl) ag_23) ?_
  refine wl_call gd_none rfl ci_16 (args1 (lk rfl)) (fun hG w1 hw => toRoamingAgreement_c _ w1) ?_
  refine wl_v rfl (val_move (lk rfl)) ?_
  refine wl_callx rfl ci_28 (args1 (lk rfl)) (fun w1 hw => toUsageRecordS_c own _ _ _ _ w1 (hs1.hp hw rfl) (by omega)) (fun _ => rfl) ?_
  rintro ⟨gb25, gc25, gs25⟩ ⟨hgl25, hgc25⟩
  refine wl_v rfl (val_move (lk rfl)) ?_
  refine wl_callx rfl ci_28 (args1 (lk rfl)) (fun w1 hw => toUsageRecordS_c told _ _ _ _ w1 (hs2.hp hw rfl) (by omega)) (fun _ => rfl) ?_
  rintro ⟨gb27, gc27, gs27⟩ ⟨hgl27, hgc27⟩
  refine wl_call gd_none rfl ci_43 (args3 (lk rfl) (lk rfl) (lk rfl)) (fun hG w1 hw => sOwed_c d own told _ _ _ _ _ _ _ _ w1 (Sl.own hw (.tail _ (.head _))) (Sl.own hw (.head _)) (by omega) (by omega) (cap_le encU_len (by decide) hgl25) (cap_le encU_len (by decide) hgl27)) ?_
  refine wl_v rfl (val_assign (lk rfl)) ?_
  refine wl_nil ?_
  refine px_then ?_
  refine wc_seq ?_
  refine wc_region ?_
  refine wl_v rfl (val_move (lk rfl)) ?_
  refine wl_callx rfl ci_28 (args1 (lk rfl)) (fun w1 hw => toUsageRecordS_c own _ _ _ _ w1 (hs1.hp hw rfl) (by omega)) (fun _ => rfl) ?_
  rintro ⟨gb30, gc30, gs30⟩ ⟨hgl30, hgc30⟩
  refine wl_v rfl (val_assign (lk rfl)) ?_
  refine wl_nil ?_
  refine px_then ?_
  refine wc_seq ?_
  refine wc_region ?_
  refine wl_v rfl (val_move (lk rfl)) ?_
  refine wl_callx rfl ci_28 (args1 (lk rfl)) (fun w1 hw => toUsageRecordS_c told _ _ _ _ w1 (hs2.hp hw rfl) (by omega)) (fun _ => rfl) ?_
  rintro ⟨gb32, gc32, gs32⟩ ⟨hgl32, hgc32⟩
  refine wl_v rfl (val_assign (lk rfl)) ?_
  refine wl_nil ?_
  refine px_then ?_
  refine wc_seq ?_
  refine wc_region ?_
  refine wl_v rfl (val_loadB (.tail _ (.tail _ (.tail _ (.tail _ (.head _))))) (lk rfl) ag_23) ?_
  refine wl_call gd_none rfl ci_16 (args1 (lk rfl)) (fun hG w1 hw => toRoamingAgreement_c _ w1) ?_
  refine wl_v rfl (val_move (lk rfl)) ?_
  refine wl_v rfl (val_move (lk rfl)) ?_
  refine wl_call gd_none rfl ci_44 (args3 (lk rfl) (lk rfl) (lk rfl)) (fun hG w1 hw => Owed_c d own told _ _ _ _ _ _ _ _ w1 (Sl.own hw (.tail _ (.head _))) (Sl.own hw (.head _)) (by omega) (by omega)) ?_
  refine wl_v rfl (val_assign (lk rfl)) ?_
  refine wl_nil ?_
  refine px_then ?_
  refine wc_seq ?_
  refine wc_seq ?_
  refine wc_region ?_
  refine wl_v rfl (val_move (lk rfl)) ?_
  refine wl_v rfl (val_move (lk rfl)) ?_
  refine wl_v rfl (val_neq (lk rfl) (lk rfl)) ?_
  refine wl_nil ?_
  refine px_then ?_
  refine wc_cond (lk rfl) (fun hc2 => ?_) (fun hc2 => ?_)
  · refine wc_seq ?_
    refine wc_region ?_
    refine wl_v rfl (val_assign lkc) ?_
    refine wl_nil ?_
    refine px_then ?_
    refine wc_ret ?_
    refine px_then_ret ?_
    refine fin1 rfl (res_tmp rfl) (fun w1 hw => ?_)
    first | exact ⟨rfl, hw.drop rfl⟩ | (exfalso; revert hc2; simp; done) | (exfalso; revert hc2; rw [eqRows_refl eqU_refl]; simp; done) | (exfalso; revert hc2; rw [eqRows_refl eqG_refl]; simp; done) | (exfalso; revert hc2; simp [eqRows_refl eqU_refl]; done) | (exfalso; revert hc2; simp [eqRows_refl eqG_refl]; done)
  refine wc_skip ?_
  refine px_then ?_
  refine wc_seq ?_
  refine wc_seq ?_
  refine wc_region ?_
  refine wl_v rfl (val_move (lk rfl)) ?_
  refine wl_v rfl (val_move (lk rfl)) ?_
  refine wl_callx rfl ci_28 (args1 (lk rfl)) (fun w1 hw => toUsageRecordS_c own _ _ _ _ w1 (hs1.hp hw rfl) (by omega)) (fun _ => rfl) ?_
  rintro ⟨gb43, gc43, gs43⟩ ⟨hgl43, hgc43⟩
  refine wl_call gd_none rfl ci_30 (args2 (lk rfl) (lk rfl)) (fun hG w1 hw => eqUsageRecordS_c own own _ _ _ _ _ _ _ _ w1 (Sl.own hw (.tail _ (.tail _ (.head _)))) (Sl.own hw (.head _)) (by omega)) ?_
  refine wl_v rfl (val_not (lk rfl)) ?_
  refine wl_nil ?_
  refine px_then ?_
  refine wc_cond (lk rfl) (fun hc3 => ?_) (fun hc3 => ?_)
  · refine wc_seq ?_
    refine wc_region ?_
    refine wl_v rfl (val_assign lkc) ?_
    refine wl_nil ?_
    refine px_then ?_
    refine wc_ret ?_
    refine px_then_ret ?_
    refine fin1 rfl (res_tmp rfl) (fun w1 hw => ?_)
    first | exact ⟨rfl, hw.drop rfl⟩ | (exfalso; revert hc3; simp; done) | (exfalso; revert hc3; rw [eqRows_refl eqU_refl]; simp; done) | (exfalso; revert hc3; rw [eqRows_refl eqG_refl]; simp; done) | (exfalso; revert hc3; simp [eqRows_refl eqU_refl]; done) | (exfalso; revert hc3; simp [eqRows_refl eqG_refl]; done)
  refine wc_skip ?_
  refine px_then ?_
  refine wc_seq ?_
  refine wc_seq ?_
  refine wc_region ?_
  refine wl_v rfl (val_move (lk rfl)) ?_
  refine wl_v rfl (val_move (lk rfl)) ?_
  refine wl_callx rfl ci_28 (args1 (lk rfl)) (fun w1 hw => toUsageRecordS_c told _ _ _ _ w1 (hs2.hp hw rfl) (by omega)) (fun _ => rfl) ?_
  rintro ⟨gb48, gc48, gs48⟩ ⟨hgl48, hgc48⟩
  refine wl_call gd_none rfl ci_30 (args2 (lk rfl) (lk rfl)) (fun hG w1 hw => eqUsageRecordS_c told told _ _ _ _ _ _ _ _ w1 (Sl.own hw (.tail _ (.tail _ (.head _)))) (Sl.own hw (.head _)) (by omega)) ?_
  refine wl_v rfl (val_not (lk rfl)) ?_
  refine wl_nil ?_
  refine px_then ?_
  refine wc_cond (lk rfl) (fun hc4 => ?_) (fun hc4 => ?_)
  · refine wc_seq ?_
    refine wc_region ?_
    refine wl_v rfl (val_assign lkc) ?_
    refine wl_nil ?_
    refine px_then ?_
    refine wc_ret ?_
    refine px_then_ret ?_
    refine fin1 rfl (res_tmp rfl) (fun w1 hw => ?_)
    first | exact ⟨rfl, hw.drop rfl⟩ | (exfalso; revert hc4; simp; done) | (exfalso; revert hc4; rw [eqRows_refl eqU_refl]; simp; done) | (exfalso; revert hc4; rw [eqRows_refl eqG_refl]; simp; done) | (exfalso; revert hc4; simp [eqRows_refl eqU_refl]; done) | (exfalso; revert hc4; simp [eqRows_refl eqG_refl]; done)
  refine wc_skip ?_
  refine px_then ?_
  refine wc_seq ?_
  refine wc_region ?_
  refine wl_v rfl (val_assign lkc) ?_
  refine wl_nil ?_
  refine px_then ?_
  refine wc_ret ?_
  refine fin1 rfl (res_tmp rfl) (fun w1 hw => ?_)
  first | exact ⟨rfl, hw.drop rfl⟩ | (exfalso; revert hc4; simp; done) | (exfalso; revert hc4; rw [eqRows_refl eqU_refl]; simp; done) | (exfalso; revert hc4; rw [eqRows_refl eqG_refl]; simp; done) | (exfalso; revert hc4; simp [eqRows_refl eqU_refl]; done) | (exfalso; revert hc4; simp [eqRows_refl eqG_refl]; done)

end Go.Proofs.Ytjcenklebamjpaa
