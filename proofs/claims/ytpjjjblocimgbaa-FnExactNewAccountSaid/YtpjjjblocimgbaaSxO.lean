/- The laws on accounts that only read: walked. -/
import Derived.Test.YtpjjjblocimgbaaSxN
namespace Go.Proofs.Ytpjjjblocimgbaa
open Go.RowKit

theorem law_TotalReserved (a : Acc) (A : Option Addr) (b o c : Nat) (w : World) (hs : Sl w A b o (flat encR a.res)) (hm : a.res.length ≤ 9223372036854775807) :
    Calls Try.prog 7 #[a.val A c] w fun e w' => e = .returned (.bool true) ∧ HP w [] w' := by
  refine calls_entry [] _ Try.func7 rfl Try.ntmps7 (HP.refl w) (env1 rfl) ?_
  refine wc_seq ?_
  refine wc_region ?_
  refine wl_box (lk rfl) rfl fun b1 => ?_
  refine wl_v rfl (val_assign lkc) ?_
  refine wl_nil ?_
  refine px_then ?_
  refine wc_seq ?_
  refine wc_region ?_
  refine wl_v rfl (val_assign lkc) ?_
  refine wl_nil ?_
  refine px_then ?_
  refine wc_seq ?_
  refine wc_region ?_
  refine wl_v rfl (val_loadB (.head _) (lk rfl) ag_35) ?_
  refine wl_v rfl (val_move (lk rfl)) ?_
  refine wl_call gd_none rfl ci_23 (args2 (lk rfl) (lk rfl)) (fun hG w1 hw => szAcc_c a _ _ _ w1 (by omega) hm) ?_
  refine wl_v rfl (val_assign (lk rfl)) ?_
  refine wl_nil ?_
  refine px_then ?_
  refine wc_seq ?_
  refine wc_seq ?_
  refine wc_region ?_
  refine wl_v rfl (val_move (lk rfl)) ?_
  refine wl_v rfl (val_lss (lk rfl) lkc) ?_
  refine wl_nil ?_
  refine px_then ?_
  refine wc_cond (lk rfl) (fun hc0 => ?_) (fun hc0 => ?_)
  · refine wc_seq ?_
    refine wc_region ?_
    refine wl_v rfl (val_assign lkc) ?_
    refine wl_nil ?_
    refine px_then ?_
    refine wc_ret ?_
    refine px_then_ret ?_
    refine fin1 rfl (res_tmp rfl) (fun w1 hw => ?_)
    first | exact ⟨rfl, hw.drop rfl⟩ | (exfalso; revert hc0; simp; done) | (exfalso; revert hc0; simp [Acc.eqb_refl]; done)
  have hl : a.res.length ≤ 1048576 := by have h9 := of_decide_eq_false hc0; unfold szN at h9; split at h9 <;> omega
  refine wc_skip ?_
  refine px_then ?_
  refine wc_seq ?_
  refine wc_region ?_
  refine wl_v rfl (val_loadB (.head _) (lk rfl) ag_35) ?_
  refine wl_callx rfl ci_25 (args1 (lk rfl)) (fun w1 hw => toAcc_c a _ _ _ _ w1 (hs.hp hw rfl) hl) (fun _ => rfl) ?_
  rintro ⟨gb13, gc13, gs13⟩ ⟨hgl13, hgc13⟩
  refine wl_call gd_none rfl ci_30 (args1 (lk rfl)) (fun hG w1 hw => sTotalReserved_c a _ _ _ _ w1 (Sl.own hw (.head _)) hl) ?_
  refine wl_v rfl (val_assign (lk rfl)) ?_
  refine wl_nil ?_
  refine px_then ?_
  refine wc_seq ?_
  refine wc_region ?_
  refine wl_v rfl (val_loadB (.tail _ (.head _)) (lk rfl) ag_35) ?_
  refine wl_callx rfl ci_25 (args1 (lk rfl)) (fun w1 hw => toAcc_c a _ _ _ _ w1 (hs.hp hw rfl) hl) (fun _ => rfl) ?_
  rintro ⟨gb16, gc16, gs16⟩ ⟨hgl16, hgc16⟩
  refine wl_alloc zc_39 rfl fun b2 => ?_
  refine wl_storeB 0 rfl (lk rfl) (lk rfl) ag_39 rfl rfl ?_
  refine wl_nil ?_
  refine px_then ?_
  refine wc_seq ?_
  refine wc_region ?_
  refine wl_v rfl (val_loadB (.head _) (lk rfl) ag_39) ?_
  refine wl_call gd_none rfl ci_31 (args1 (lk rfl)) (fun hG w1 hw => TotalReserved_c a _ _ _ _ w1 (Sl.own hw (.tail _ (.head _))) hl) ?_
  refine wl_v rfl (val_assign (lk rfl)) ?_
  refine wl_nil ?_
  refine px_then ?_
  refine wc_seq ?_
  refine wc_seq ?_
  refine wc_region ?_
  refine wl_v rfl (val_move (lk rfl)) ?_
  refine wl_v rfl (val_move (lk rfl)) ?_
  refine wl_v rfl (val_neq (lk rfl) (lk rfl)) ?_
  refine wl_nil ?_
  refine px_then ?_
  refine wc_cond (lk rfl) (fun hc1 => ?_) (fun hc1 => ?_)
  · refine wc_seq ?_
    refine wc_region ?_
    refine wl_v rfl (val_assign lkc) ?_
    refine wl_nil ?_
    refine px_then ?_
    refine wc_ret ?_
    refine px_then_ret ?_
    refine fin1 rfl (res_tmp rfl) (fun w1 hw => ?_)
    first | exact ⟨rfl, hw.drop rfl⟩ | (exfalso; revert hc1; simp; done) | (exfalso; revert hc1; simp [Acc.eqb_refl]; done)
  refine wc_skip ?_
  refine px_then ?_
  refine wc_seq ?_
  refine wc_seq ?_
  refine wc_region_a0 5 mo_ rfl ?_
  refine wa_take 0 rfl (by kernel_rfl) (by kernel_rfl) (by kernel_rfl) (fun _ h => h.dropN 0 rfl) gd_none rfl (val_loadB (.head _) (lk rfl) ag_39) ?_
  refine wa_take 1 rfl (by kernel_rfl) (by kernel_rfl) (by kernel_rfl) (fun _ h => h.dropN 0 rfl) gd_none rfl (val_loadB (.tail _ (.tail _ (.tail _ (.head _)))) (lk rfl) ag_35) ?_
  refine wa_only 2 (by kernel_rfl) rfl ?_
  refine wl_callx rfl ci_25 (args1 (lk rfl)) (fun w1 hw => toAcc_c a _ _ _ _ w1 (hs.hp hw rfl) hl) (fun _ => rfl) ?_
  rintro ⟨gb24, gc24, gs24⟩ ⟨hgl24, hgc24⟩
  refine wl_nil (px_qn (fun _ h => h.dropN 1 rfl) ?_)
  refine wa_only 3 (by kernel_rfl) rfl ?_
  refine wl_call gd_none rfl ci_27 (args2 (lk rfl) (lk rfl)) (fun hG w1 hw => eqAcc_c a a _ _ _ _ _ _ _ _ w1 (Sl.own hw (.tail _ (.tail _ (.head _)))) (Sl.own hw (.head _)) (by omega)) ?_
  refine wl_nil (px_qn (fun _ h => h.dropN 1 rfl) ?_)
  refine wa_take 4 rfl (by kernel_rfl) (by kernel_rfl) (by kernel_rfl) (fun _ h => h.dropN 1 rfl) gd_none rfl (val_not (lk rfl)) ?_
  refine wa_done (by kernel_rfl) ?_
  refine px_then ?_
  refine wc_cond (lk rfl) (fun hc2 => ?_) (fun hc2 => ?_)
  · refine wc_seq ?_
    refine wc_region ?_
    refine wl_v rfl (val_assign lkc) ?_
    refine wl_nil ?_
    refine px_then ?_
    refine wc_ret ?_
    refine px_then_ret ?_
    refine fin1 rfl (res_tmp rfl) (fun w1 hw => ?_)
    first | exact ⟨rfl, hw.drop rfl⟩ | (exfalso; revert hc2; simp; done) | (exfalso; revert hc2; simp [Acc.eqb_refl]; done)
  refine wc_skip ?_
  refine px_then ?_
  refine wc_seq ?_
  refine wc_region ?_
  refine wl_v rfl (val_assign lkc) ?_
  refine wl_nil ?_
  refine px_then ?_
  refine wc_ret ?_
  refine fin1 rfl (res_tmp rfl) (fun w1 hw => ?_)
  first | exact ⟨rfl, hw.drop rfl⟩ | (exfalso; revert hc2; simp; done) | (exfalso; revert hc2; simp [Acc.eqb_refl]; done)

theorem law_IsValidAccount (a : Acc) (A : Option Addr) (b o c : Nat) (w : World) (hs : Sl w A b o (flat encR a.res)) (hm : a.res.length ≤ 9223372036854775807) :
    Calls Try.prog 11 #[a.val A c] w fun e w' => e = .returned (.bool true) ∧ HP w [] w' := by
  refine calls_entry [] _ Try.func11 rfl Try.ntmps11 (HP.refl w) (env1 rfl) ?_
  refine wc_seq ?_
  refine wc_region ?_
  refine wl_box (lk rfl) rfl fun b1 => ?_
  refine wl_v rfl (val_assign lkc) ?_
  refine wl_nil ?_
  refine px_then ?_
  refine wc_seq ?_
  refine wc_region ?_
  refine wl_v rfl (val_assign lkc) ?_
  refine wl_nil ?_
  refine px_then ?_
  refine wc_seq ?_
  refine wc_region ?_
  refine wl_v rfl (val_loadB (.head _) (lk rfl) ag_35) ?_
  refine wl_v rfl (val_move (lk rfl)) ?_
  refine wl_call gd_none rfl ci_23 (args2 (lk rfl) (lk rfl)) (fun hG w1 hw => szAcc_c a _ _ _ w1 (by omega) hm) ?_
  refine wl_v rfl (val_assign (lk rfl)) ?_
  refine wl_nil ?_
  refine px_then ?_
  refine wc_seq ?_
  refine wc_seq ?_
  refine wc_region ?_
  refine wl_v rfl (val_move (lk rfl)) ?_
  refine wl_v rfl (val_lss (lk rfl) lkc) ?_
  refine wl_nil ?_
  refine px_then ?_
  refine wc_cond (lk rfl) (fun hc0 => ?_) (fun hc0 => ?_)
  · refine wc_seq ?_
    refine wc_region ?_
    refine wl_v rfl (val_assign lkc) ?_
    refine wl_nil ?_
    refine px_then ?_
    refine wc_ret ?_
    refine px_then_ret ?_
    refine fin1 rfl (res_tmp rfl) (fun w1 hw => ?_)
    first | exact ⟨rfl, hw.drop rfl⟩ | (exfalso; revert hc0; simp; done) | (exfalso; revert hc0; simp [Acc.eqb_refl]; done)
  have hl : a.res.length ≤ 1048576 := by have h9 := of_decide_eq_false hc0; unfold szN at h9; split at h9 <;> omega
  refine wc_skip ?_
  refine px_then ?_
  refine wc_seq ?_
  refine wc_region ?_
  refine wl_v rfl (val_loadB (.head _) (lk rfl) ag_35) ?_
  refine wl_callx rfl ci_25 (args1 (lk rfl)) (fun w1 hw => toAcc_c a _ _ _ _ w1 (hs.hp hw rfl) hl) (fun _ => rfl) ?_
  rintro ⟨gb13, gc13, gs13⟩ ⟨hgl13, hgc13⟩
  refine wl_call gd_none rfl ci_43 (args1 (lk rfl)) (fun hG w1 hw => sIsValidAccount_c a _ _ _ _ w1 (Sl.own hw (.head _)) hl) ?_
  refine wl_v rfl (val_assign (lk rfl)) ?_
  refine wl_nil ?_
  refine px_then ?_
  refine wc_seq ?_
  refine wc_region ?_
  refine wl_v rfl (val_loadB (.tail _ (.head _)) (lk rfl) ag_35) ?_
  refine wl_callx rfl ci_25 (args1 (lk rfl)) (fun w1 hw => toAcc_c a _ _ _ _ w1 (hs.hp hw rfl) hl) (fun _ => rfl) ?_
  rintro ⟨gb16, gc16, gs16⟩ ⟨hgl16, hgc16⟩
  refine wl_alloc zc_39 rfl fun b2 => ?_
  refine wl_storeB 0 rfl (lk rfl) (lk rfl) ag_39 rfl rfl ?_
  refine wl_nil ?_
  refine px_then ?_
  refine wc_seq ?_
  refine wc_region ?_
  refine wl_v rfl (val_loadB (.head _) (lk rfl) ag_39) ?_
  refine wl_call gd_none rfl ci_40 (args1 (lk rfl)) (fun hG w1 hw => IsValidAccount_c a _ _ _ _ w1 (Sl.own hw (.tail _ (.head _))) hl) ?_
  refine wl_v rfl (val_assign (lk rfl)) ?_
  refine wl_nil ?_
  refine px_then ?_
  refine wc_seq ?_
  refine wc_seq ?_
  refine wc_region ?_
  refine wl_v rfl (val_move (lk rfl)) ?_
  refine wl_v rfl (val_move (lk rfl)) ?_
  refine wl_v rfl (val_neqB Try.underlying4 (lk rfl) (lk rfl)) ?_
  refine wl_nil ?_
  refine px_then ?_
  refine wc_cond (lk rfl) (fun hc1 => ?_) (fun hc1 => ?_)
  · refine wc_seq ?_
    refine wc_region ?_
    refine wl_v rfl (val_assign lkc) ?_
    refine wl_nil ?_
    refine px_then ?_
    refine wc_ret ?_
    refine px_then_ret ?_
    refine fin1 rfl (res_tmp rfl) (fun w1 hw => ?_)
    first | exact ⟨rfl, hw.drop rfl⟩ | (exfalso; revert hc1; simp; done) | (exfalso; revert hc1; simp [Acc.eqb_refl]; done)
  refine wc_skip ?_
  refine px_then ?_
  refine wc_seq ?_
  refine wc_seq ?_
  refine wc_region_a0 5 mo_ rfl ?_
  refine wa_take 0 rfl (by kernel_rfl) (by kernel_rfl) (by kernel_rfl) (fun _ h => h.dropN 0 rfl) gd_none rfl (val_loadB (.head _) (lk rfl) ag_39) ?_
  refine wa_take 1 rfl (by kernel_rfl) (by kernel_rfl) (by kernel_rfl) (fun _ h => h.dropN 0 rfl) gd_none rfl (val_loadB (.tail _ (.tail _ (.tail _ (.head _)))) (lk rfl) ag_35) ?_
  refine wa_only 2 (by kernel_rfl) rfl ?_
  refine wl_callx rfl ci_25 (args1 (lk rfl)) (fun w1 hw => toAcc_c a _ _ _ _ w1 (hs.hp hw rfl) hl) (fun _ => rfl) ?_
  rintro ⟨gb24, gc24, gs24⟩ ⟨hgl24, hgc24⟩
  refine wl_nil (px_qn (fun _ h => h.dropN 1 rfl) ?_)
  refine wa_only 3 (by kernel_rfl) rfl ?_
  refine wl_call gd_none rfl ci_27 (args2 (lk rfl) (lk rfl)) (fun hG w1 hw => eqAcc_c a a _ _ _ _ _ _ _ _ w1 (Sl.own hw (.tail _ (.tail _ (.head _)))) (Sl.own hw (.head _)) (by omega)) ?_
  refine wl_nil (px_qn (fun _ h => h.dropN 1 rfl) ?_)
  refine wa_take 4 rfl (by kernel_rfl) (by kernel_rfl) (by kernel_rfl) (fun _ h => h.dropN 1 rfl) gd_none rfl (val_not (lk rfl)) ?_
  refine wa_done (by kernel_rfl) ?_
  refine px_then ?_
  refine wc_cond (lk rfl) (fun hc2 => ?_) (fun hc2 => ?_)
  · refine wc_seq ?_
    refine wc_region ?_
    refine wl_v rfl (val_assign lkc) ?_
    refine wl_nil ?_
    refine px_then ?_
    refine wc_ret ?_
    refine px_then_ret ?_
    refine fin1 rfl (res_tmp rfl) (fun w1 hw => ?_)
    first | exact ⟨rfl, hw.drop rfl⟩ | (exfalso; revert hc2; simp; done) | (exfalso; revert hc2; simp [Acc.eqb_refl]; done)
  refine wc_skip ?_
  refine px_then ?_
  refine wc_seq ?_
  refine wc_region ?_
  refine wl_v rfl (val_assign lkc) ?_
  refine wl_nil ?_
  refine px_then ?_
  refine wc_ret ?_
  refine fin1 rfl (res_tmp rfl) (fun w1 hw => ?_)
  first | exact ⟨rfl, hw.drop rfl⟩ | (exfalso; revert hc2; simp; done) | (exfalso; revert hc2; simp [Acc.eqb_refl]; done)

theorem law_ReservedFor (a : Acc) (A : Option Addr) (b o c : Nat) (id : Int) (w : World) (hs : Sl w A b o (flat encR a.res)) (hm : a.res.length ≤ 9223372036854775807) :
    Calls Try.prog 10 #[a.val A c, .int .i64 id] w fun e w' => e = .returned (.bool true) ∧ HP w [] w' := by
  refine calls_entry [] _ Try.func10 rfl Try.ntmps10 (HP.refl w) (env2 rfl) ?_
  refine wc_seq ?_
  refine wc_region ?_
  refine wl_box (lk rfl) rfl fun b1 => ?_
  refine wl_v rfl (val_assign lkc) ?_
  refine wl_nil ?_
  refine px_then ?_
  refine wc_seq ?_
  refine wc_region ?_
  refine wl_v rfl (val_assign lkc) ?_
  refine wl_nil ?_
  refine px_then ?_
  refine wc_seq ?_
  refine wc_region ?_
  refine wl_v rfl (val_loadB (.head _) (lk rfl) ag_35) ?_
  refine wl_v rfl (val_move (lk rfl)) ?_
  refine wl_call gd_none rfl ci_23 (args2 (lk rfl) (lk rfl)) (fun hG w1 hw => szAcc_c a _ _ _ w1 (by omega) hm) ?_
  refine wl_v rfl (val_assign (lk rfl)) ?_
  refine wl_nil ?_
  refine px_then ?_
  refine wc_seq ?_
  refine wc_seq ?_
  refine wc_region ?_
  refine wl_v rfl (val_move (lk rfl)) ?_
  refine wl_v rfl (val_lss (lk rfl) lkc) ?_
  refine wl_nil ?_
  refine px_then ?_
  refine wc_cond (lk rfl) (fun hc0 => ?_) (fun hc0 => ?_)
  · refine wc_seq ?_
    refine wc_region ?_
    refine wl_v rfl (val_assign lkc) ?_
    refine wl_nil ?_
    refine px_then ?_
    refine wc_ret ?_
    refine px_then_ret ?_
    refine fin1 rfl (res_tmp rfl) (fun w1 hw => ?_)
    first | exact ⟨rfl, hw.drop rfl⟩ | (exfalso; revert hc0; simp; done) | (exfalso; revert hc0; simp [Acc.eqb_refl]; done)
  have hl : a.res.length ≤ 1048576 := by have h9 := of_decide_eq_false hc0; unfold szN at h9; split at h9 <;> omega
  refine wc_skip ?_
  refine px_then ?_
  refine wc_seq ?_
  refine wc_region ?_
  refine wl_v rfl (val_loadB (.head _) (lk rfl) ag_35) ?_
  refine wl_callx rfl ci_25 (args1 (lk rfl)) (fun w1 hw => toAcc_c a _ _ _ _ w1 (hs.hp hw rfl) hl) (fun _ => rfl) ?_
  rintro ⟨gb15, gc15, gs15⟩ ⟨hgl15, hgc15⟩
  refine wl_v rfl (val_move (lk rfl)) ?_
  refine wl_call gd_none rfl ci_42 (args2 (lk rfl) (lk rfl)) (fun hG w1 hw => sReservedFor_c a _ _ _ _ id w1 (Sl.own hw (.head _)) hl) ?_
  refine wl_v rfl (val_assign (lk rfl)) ?_
  refine wl_nil ?_
  refine px_then ?_
  refine wc_seq ?_
  refine wc_region ?_
  refine wl_v rfl (val_loadB (.tail _ (.head _)) (lk rfl) ag_35) ?_
  refine wl_callx rfl ci_25 (args1 (lk rfl)) (fun w1 hw => toAcc_c a _ _ _ _ w1 (hs.hp hw rfl) hl) (fun _ => rfl) ?_
  rintro ⟨gb19, gc19, gs19⟩ ⟨hgl19, hgc19⟩
  refine wl_alloc zc_39 rfl fun b2 => ?_
  refine wl_storeB 0 rfl (lk rfl) (lk rfl) ag_39 rfl rfl ?_
  refine wl_nil ?_
  refine px_then ?_
  refine wc_seq ?_
  refine wc_region ?_
  refine wl_v rfl (val_loadB (.head _) (lk rfl) ag_39) ?_
  refine wl_v rfl (val_move (lk rfl)) ?_
  refine wl_call gd_none rfl ci_41 (args2 (lk rfl) (lk rfl)) (fun hG w1 hw => ReservedFor_c a _ _ _ _ id w1 (Sl.own hw (.tail _ (.head _))) hl) ?_
  refine wl_v rfl (val_assign (lk rfl)) ?_
  refine wl_nil ?_
  refine px_then ?_
  refine wc_seq ?_
  refine wc_seq ?_
  refine wc_region ?_
  refine wl_v rfl (val_move (lk rfl)) ?_
  refine wl_v rfl (val_move (lk rfl)) ?_
  refine wl_v rfl (val_neq (lk rfl) (lk rfl)) ?_
  refine wl_nil ?_
  refine px_then ?_
  refine wc_cond (lk rfl) (fun hc1 => ?_) (fun hc1 => ?_)
  · refine wc_seq ?_
    refine wc_region ?_
    refine wl_v rfl (val_assign lkc) ?_
    refine wl_nil ?_
    refine px_then ?_
    refine wc_ret ?_
    refine px_then_ret ?_
    refine fin1 rfl (res_tmp rfl) (fun w1 hw => ?_)
    first | exact ⟨rfl, hw.drop rfl⟩ | (exfalso; revert hc1; simp; done) | (exfalso; revert hc1; simp [Acc.eqb_refl]; done)
  refine wc_skip ?_
  refine px_then ?_
  refine wc_seq ?_
  refine wc_seq ?_
  refine wc_region_a0 5 mo_ rfl ?_
  refine wa_take 0 rfl (by kernel_rfl) (by kernel_rfl) (by kernel_rfl) (fun _ h => h.dropN 0 rfl) gd_none rfl (val_loadB (.head _) (lk rfl) ag_39) ?_
  refine wa_take 1 rfl (by kernel_rfl) (by kernel_rfl) (by kernel_rfl) (fun _ h => h.dropN 0 rfl) gd_none rfl (val_loadB (.tail _ (.tail _ (.tail _ (.head _)))) (lk rfl) ag_35) ?_
  refine wa_only 2 (by kernel_rfl) rfl ?_
  refine wl_callx rfl ci_25 (args1 (lk rfl)) (fun w1 hw => toAcc_c a _ _ _ _ w1 (hs.hp hw rfl) hl) (fun _ => rfl) ?_
  rintro ⟨gb28, gc28, gs28⟩ ⟨hgl28, hgc28⟩
  refine wl_nil (px_qn (fun _ h => h.dropN 1 rfl) ?_)
  refine wa_only 3 (by kernel_rfl) rfl ?_
  refine wl_call gd_none rfl ci_27 (args2 (lk rfl) (lk rfl)) (fun hG w1 hw => eqAcc_c a a _ _ _ _ _ _ _ _ w1 (Sl.own hw (.tail _ (.tail _ (.head _)))) (Sl.own hw (.head _)) (by omega)) ?_
  refine wl_nil (px_qn (fun _ h => h.dropN 1 rfl) ?_)
  refine wa_take 4 rfl (by kernel_rfl) (by kernel_rfl) (by kernel_rfl) (fun _ h => h.dropN 1 rfl) gd_none rfl (val_not (lk rfl)) ?_
  refine wa_done (by kernel_rfl) ?_
  refine px_then ?_
  refine wc_cond (lk rfl) (fun hc2 => ?_) (fun hc2 => ?_)
  · refine wc_seq ?_
    refine wc_region ?_
    refine wl_v rfl (val_assign lkc) ?_
    refine wl_nil ?_
    refine px_then ?_
    refine wc_ret ?_
    refine px_then_ret ?_
    refine fin1 rfl (res_tmp rfl) (fun w1 hw => ?_)
    first | exact ⟨rfl, hw.drop rfl⟩ | (exfalso; revert hc2; simp; done) | (exfalso; revert hc2; simp [Acc.eqb_refl]; done)
  refine wc_skip ?_
  refine px_then ?_
  refine wc_seq ?_
  refine wc_region ?_
  refine wl_v rfl (val_assign lkc) ?_
  refine wl_nil ?_
  refine px_then ?_
  refine wc_ret ?_
  refine fin1 rfl (res_tmp rfl) (fun w1 hw => ?_)
  first | exact ⟨rfl, hw.drop rfl⟩ | (exfalso; revert hc2; simp; done) | (exfalso; revert hc2; simp [Acc.eqb_refl]; done)

theorem law_QuotaMatches (a : Acc) (A : Option Addr) (b o c : Nat) (q : Quota) (w : World) (hs : Sl w A b o (flat encR a.res)) (hm : a.res.length ≤ 9223372036854775807) :
    Calls Try.prog 12 #[a.val A c, q.val] w fun e w' => e = .returned (.bool true) ∧ HP w [] w' := by
  refine calls_entry [] _ Try.func12 rfl Try.ntmps12 (HP.refl w) (env2 rfl) ?_
  refine wc_seq ?_
  refine wc_region ?_
  refine wl_box (lk rfl) rfl fun b1 => ?_
  refine wl_box (lk rfl) rfl fun b2 => ?_
  refine wl_v rfl (val_assign lkc) ?_
  refine wl_nil ?_
  refine px_then ?_
  refine wc_seq ?_
  refine wc_region ?_
  refine wl_v rfl (val_assign lkc) ?_
  refine wl_nil ?_
  refine px_then ?_
  refine wc_seq ?_
  refine wc_region ?_
  refine wl_v rfl (val_loadB (.tail _ (.head _)) (lk rfl) ag_35) ?_
  refine wl_v rfl (val_move (lk rfl)) ?_
  refine wl_call gd_none rfl ci_23 (args2 (lk rfl) (lk rfl)) (fun hG w1 hw => szAcc_c a _ _ _ w1 (by omega) hm) ?_
  refine wl_v rfl (val_assign (lk rfl)) ?_
  refine wl_nil ?_
  refine px_then ?_
  refine wc_seq ?_
  refine wc_seq ?_
  refine wc_region ?_
  refine wl_v rfl (val_move (lk rfl)) ?_
  refine wl_v rfl (val_lss (lk rfl) lkc) ?_
  refine wl_nil ?_
  refine px_then ?_
  refine wc_cond (lk rfl) (fun hc0 => ?_) (fun hc0 => ?_)
  · refine wc_seq ?_
    refine wc_region ?_
    refine wl_v rfl (val_assign lkc) ?_
    refine wl_nil ?_
    refine px_then ?_
    refine wc_ret ?_
    refine px_then_ret ?_
    refine fin1 rfl (res_tmp rfl) (fun w1 hw => ?_)
    first | exact ⟨rfl, hw.drop rfl⟩ | (exfalso; revert hc0; simp; done) | (exfalso; revert hc0; simp [Acc.eqb_refl]; done)
  have hl : a.res.length ≤ 1048576 := by have h9 := of_decide_eq_false hc0; unfold szN at h9; split at h9 <;> omega
  refine wc_skip ?_
  refine px_then ?_
  refine wc_seq ?_
  refine wc_region_a0 6 mo_ rfl ?_
  refine wa_take 0 rfl (by kernel_rfl) (by kernel_rfl) (by kernel_rfl) (fun _ h => h.dropN 0 rfl) gd_none rfl (val_loadB (.tail _ (.head _)) (lk rfl) ag_35) ?_
  refine wa_take 2 rfl (by kernel_rfl) (by kernel_rfl) (by kernel_rfl) (fun _ h => h.dropN 0 rfl) gd_none rfl (val_loadB (.head _) (lk rfl) ag_23) ?_
  refine wa_only 1 (by kernel_rfl) rfl ?_
  refine wl_callx rfl ci_25 (args1 (lk rfl)) (fun w1 hw => toAcc_c a _ _ _ _ w1 (hs.hp hw rfl) hl) (fun _ => rfl) ?_
  rintro ⟨gb15, gc15, gs15⟩ ⟨hgl15, hgc15⟩
  refine wl_nil (px_qn (fun _ h => h.dropN 1 rfl) ?_)
  refine wa_only 3 (by kernel_rfl) rfl ?_
  refine wl_call gd_none rfl ci_16 (args1 (lk rfl)) (fun hG w1 hw => toQuota_c q w1) ?_
  refine wl_nil (px_qn (fun _ h => h.dropN 1 rfl) ?_)
  refine wa_only 4 (by kernel_rfl) rfl ?_
  refine wl_call gd_none rfl ci_44 (args2 (lk rfl) (lk rfl)) (fun hG w1 hw => sMatches_c a _ _ _ _ q w1 (Sl.own hw (.head _)) hl) ?_
  refine wl_nil (px_qn (fun _ h => h.dropN 1 rfl) ?_)
  refine wa_take 5 rfl (by kernel_rfl) (by kernel_rfl) (by kernel_rfl) (fun _ h => h.dropN 1 rfl) gd_none rfl (val_assign (lk rfl)) ?_
  refine wa_done (by kernel_rfl) ?_
  refine px_then ?_
  refine wc_seq ?_
  refine wc_region ?_
  refine wl_v rfl (val_loadB (.tail _ (.tail _ (.head _))) (lk rfl) ag_35) ?_
  refine wl_callx rfl ci_25 (args1 (lk rfl)) (fun w1 hw => toAcc_c a _ _ _ _ w1 (hs.hp hw rfl) hl) (fun _ => rfl) ?_
  rintro ⟨gb20, gc20, gs20⟩ ⟨hgl20, hgc20⟩
  refine wl_alloc zc_39 rfl fun b3 => ?_
  refine wl_storeB 0 rfl (lk rfl) (lk rfl) ag_39 rfl rfl ?_
  refine wl_nil ?_
  refine px_then ?_
  refine wc_seq ?_
  refine wc_region_q mo_ (by kernel_rfl) ?_
  refine wq_v rfl (val_loadB (.head _) (lk rfl) ag_39) ?_
  refine wq_v rfl (val_loadB (.tail _ (.tail _ (.tail _ (.head _)))) (lk rfl) ag_23) ?_
  refine wq_call gd_none rfl ci_16 (args1 (lk rfl)) (fun hG w1 hw => toQuota_c q w1) ?_
  refine wq_call gd_none rfl ci_39 (args2 (lk rfl) (lk rfl)) (fun hG w1 hw => Matches_c a _ _ _ _ q w1 (Sl.own hw (.tail _ (.head _))) hl) ?_
  refine wq_v rfl (val_assign (lk rfl)) ?_
  refine wq_nil ?_
  refine px_then ?_
  refine wc_seq ?_
  refine wc_seq ?_
  refine wc_region ?_
  refine wl_v rfl (val_move (lk rfl)) ?_
  refine wl_v rfl (val_move (lk rfl)) ?_
  refine wl_v rfl (val_neqB Try.underlying4 (lk rfl) (lk rfl)) ?_
  refine wl_nil ?_
  refine px_then ?_
  refine wc_cond (lk rfl) (fun hc1 => ?_) (fun hc1 => ?_)
  · refine wc_seq ?_
    refine wc_region ?_
    refine wl_v rfl (val_assign lkc) ?_
    refine wl_nil ?_
    refine px_then ?_
    refine wc_ret ?_
    refine px_then_ret ?_
    refine fin1 rfl (res_tmp rfl) (fun w1 hw => ?_)
    first | exact ⟨rfl, hw.drop rfl⟩ | (exfalso; revert hc1; simp; done) | (exfalso; revert hc1; simp [Acc.eqb_refl]; done)
  refine wc_skip ?_
  refine px_then ?_
  refine wc_seq ?_
  refine wc_seq ?_
  refine wc_region_a0 5 mo_ rfl ?_
  refine wa_take 0 rfl (by kernel_rfl) (by kernel_rfl) (by kernel_rfl) (fun _ h => h.dropN 0 rfl) gd_none rfl (val_loadB (.head _) (lk rfl) ag_39) ?_
  refine wa_take 1 rfl (by kernel_rfl) (by kernel_rfl) (by kernel_rfl) (fun _ h => h.dropN 0 rfl) gd_none rfl (val_loadB (.tail _ (.tail _ (.tail _ (.tail _ (.head _))))) (lk rfl) ag_35) ?_
  refine wa_only 2 (by kernel_rfl) rfl ?_
  refine wl_callx rfl ci_25 (args1 (lk rfl)) (fun w1 hw => toAcc_c a _ _ _ _ w1 (hs.hp hw rfl) hl) (fun _ => rfl) ?_
  rintro ⟨gb30, gc30, gs30⟩ ⟨hgl30, hgc30⟩
  refine wl_nil (px_qn (fun _ h => h.dropN 1 rfl) ?_)
  refine wa_only 3 (by kernel_rfl) rfl ?_
  refine wl_call gd_none rfl ci_27 (args2 (lk rfl) (lk rfl)) (fun hG w1 hw => eqAcc_c a a _ _ _ _ _ _ _ _ w1 (Sl.own hw (.tail _ (.tail _ (.head _)))) (Sl.own hw (.head _)) (by omega)) ?_
  refine wl_nil (px_qn (fun _ h => h.dropN 1 rfl) ?_)
  refine wa_take 4 rfl (by kernel_rfl) (by kernel_rfl) (by kernel_rfl) (fun _ h => h.dropN 1 rfl) gd_none rfl (val_not (lk rfl)) ?_
  refine wa_done (by kernel_rfl) ?_
  refine px_then ?_
  refine wc_cond (lk rfl) (fun hc2 => ?_) (fun hc2 => ?_)
  · refine wc_seq ?_
    refine wc_region ?_
    refine wl_v rfl (val_assign lkc) ?_
    refine wl_nil ?_
    refine px_then ?_
    refine wc_ret ?_
    refine px_then_ret ?_
    refine fin1 rfl (res_tmp rfl) (fun w1 hw => ?_)
    first | exact ⟨rfl, hw.drop rfl⟩ | (exfalso; revert hc2; simp; done) | (exfalso; revert hc2; simp [Acc.eqb_refl]; done)
  refine wc_skip ?_
  refine px_then ?_
  refine wc_seq ?_
  refine wc_region ?_
  refine wl_v rfl (val_assign lkc) ?_
  refine wl_nil ?_
  refine px_then ?_
  refine wc_ret ?_
  refine fin1 rfl (res_tmp rfl) (fun w1 hw => ?_)
  first | exact ⟨rfl, hw.drop rfl⟩ | (exfalso; revert hc2; simp; done) | (exfalso; revert hc2; simp [Acc.eqb_refl]; done)

end Go.Proofs.Ytpjjjblocimgbaa
