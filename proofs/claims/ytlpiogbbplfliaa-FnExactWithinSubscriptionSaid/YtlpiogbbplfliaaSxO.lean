/- The laws on subscriptions that only read: walked. -/
import Derived.Test.YtlpiogbbplfliaaSxN
namespace Go.Proofs.Ytlpiogbbplfliaa
open Go.RowKit

theorem law_RoamingAllowed (s : Sub) (A : Option Addr) (b o c : Nat) (h v : Int) (w : World) (hs : Sl w A b o (flat encI s.nets)) (hm : s.nets.length ≤ 9223372036854775807) :
    Calls Try.prog 3 #[s.val A c, .int .i64 h, .int .i64 v] w fun e w' => e = .returned (.bool true) ∧ HP w [] w' := by
  refine calls_entry [] _ Try.func3 rfl Try.ntmps3 (HP.refl w) (env3 rfl) ?_
  refine wc_seq ?_
  refine wc_region ?_
  refine wl_box (lk rfl) rfl fun b1 => ?_
  refine wl_v rfl (val_assign lkc) ?_
  refine wl_nil ?_
  refine px_then ?_
  refine wc_seq ?_
  refine wc_region ?_
  refine wl_v rfl (val_assign lkc) ?_
  refine wl_nil ?_
  refine px_then ?_
  refine wc_seq ?_
  refine wc_region ?_
  refine wl_v rfl (val_loadB (.head _) (lk rfl) ag_24) ?_
  refine wl_v rfl (val_move (lk rfl)) ?_
  refine wl_call gd_none rfl ci_10 (args2 (lk rfl) (lk rfl)) (fun hG w1 hw => szSub_c s _ _ _ w1 (by omega) (by omega)) ?_
  refine wl_v rfl (val_assign (lk rfl)) ?_
  refine wl_nil ?_
  refine px_then ?_
  refine wc_seq ?_
  refine wc_seq ?_
  refine wc_region ?_
  refine wl_v rfl (val_move (lk rfl)) ?_
  refine wl_v rfl (val_lss (lk rfl) lkc) ?_
  refine wl_nil ?_
  refine px_then ?_
  refine wc_cond (lk rfl) (fun hc0 => ?_) (fun hc0 => ?_)
  · refine wc_seq ?_
    refine wc_region ?_
    refine wl_v rfl (val_assign lkc) ?_
    refine wl_nil ?_
    refine px_then ?_
    refine wc_ret ?_
    refine px_then_ret ?_
    refine fin1 rfl (res_tmp rfl) (fun w1 hw => ?_)
    first | exact ⟨rfl, hw.drop rfl⟩ | (exfalso; revert hc0; simp; done) | (exfalso; revert hc0; simp; omega) | (exfalso; revert hc0; rw [Sub.eqb_refl]; simp; done) | (exfalso; revert hc0; rw [eqRows_refl eqB_refl]; simp; done) | (exfalso; revert hc0; rw [eqRows_refl eqB_refl]; simp; omega) | (exfalso; revert hc0; rw [eqB_refl]; simp; done) | (exfalso; have h9 := of_decide_eq_true hc0; omega)
  have hl : s.nets.length ≤ 1048576 := by have h9 := of_decide_eq_false hc0; unfold szN at h9; split at h9 <;> omega
  refine wc_skip ?_
  refine px_then ?_
  refine wc_seq ?_
  refine wc_region ?_
  refine wl_v rfl (val_loadB (.head _) (lk rfl) ag_24) ?_
  refine wl_callx rfl ci_12 (args1 (lk rfl)) (fun w1 hw => toSub_c _ _ _ _ _ w1 (hs.hp hw rfl) (by omega)) (fun _ => rfl) ?_
  rintro ⟨gb17, gc17, gs17⟩ ⟨hgl17, hgc17⟩
  refine wl_v rfl (val_move (lk rfl)) ?_
  refine wl_v rfl (val_move (lk rfl)) ?_
  refine wl_call gd_none rfl ci_11 (args3 (lk rfl) (lk rfl) (lk rfl)) (fun hG w1 hw => sRoam_c _ _ _ _ _ _ _ w1 (Sl.own hw (.head _)) (by omega)) ?_
  refine wl_v rfl (val_assign (lk rfl)) ?_
  refine wl_nil ?_
  refine px_then ?_
  refine wc_seq ?_
  refine wc_region ?_
  refine wl_v rfl (val_loadB (.tail _ (.head _)) (lk rfl) ag_24) ?_
  refine wl_callx rfl ci_12 (args1 (lk rfl)) (fun w1 hw => toSub_c _ _ _ _ _ w1 (hs.hp hw rfl) (by omega)) (fun _ => rfl) ?_
  rintro ⟨gb22, gc22, gs22⟩ ⟨hgl22, hgc22⟩
  refine wl_alloc zc_27 rfl fun b2 => ?_
  refine wl_storeB 0 rfl (lk rfl) (lk rfl) ag_27 rfl rfl ?_
  refine wl_nil ?_
  refine px_then ?_
  refine wc_seq ?_
  refine wc_region ?_
  refine wl_v rfl (val_loadB (.head _) (lk rfl) ag_27) ?_
  refine wl_v rfl (val_move (lk rfl)) ?_
  refine wl_v rfl (val_move (lk rfl)) ?_
  refine wl_call gd_none rfl ci_13 (args3 (lk rfl) (lk rfl) (lk rfl)) (fun hG w1 hw => Roam_c _ _ _ _ _ _ _ w1 (Sl.own hw (.tail _ (.head _))) (by omega)) ?_
  refine wl_v rfl (val_assign (lk rfl)) ?_
  refine wl_nil ?_
  refine px_then ?_
  refine wc_seq ?_
  refine wc_seq ?_
  refine wc_region ?_
  refine wl_v rfl (val_move (lk rfl)) ?_
  refine wl_v rfl (val_move (lk rfl)) ?_
  refine wl_v rfl (val_neqB Try.underlying4 (lk rfl) (lk rfl)) ?_
  refine wl_nil ?_
  refine px_then ?_
  refine wc_cond (lk rfl) (fun hc1 => ?_) (fun hc1 => ?_)
  · refine wc_seq ?_
    refine wc_region ?_
    refine wl_v rfl (val_assign lkc) ?_
    refine wl_nil ?_
    refine px_then ?_
    refine wc_ret ?_
    refine px_then_ret ?_
    refine fin1 rfl (res_tmp rfl) (fun w1 hw => ?_)
    first | exact ⟨rfl, hw.drop rfl⟩ | (exfalso; revert hc1; simp; done) | (exfalso; revert hc1; simp; omega) | (exfalso; revert hc1; rw [Sub.eqb_refl]; simp; done) | (exfalso; revert hc1; rw [eqRows_refl eqB_refl]; simp; done) | (exfalso; revert hc1; rw [eqRows_refl eqB_refl]; simp; omega) | (exfalso; revert hc1; rw [eqB_refl]; simp; done) | (exfalso; have h9 := of_decide_eq_true hc1; omega)
  refine wc_skip ?_
  refine px_then ?_
  refine wc_seq ?_
  refine wc_seq ?_
  refine wc_region_a0 5 mo_ rfl ?_
  refine wa_take 0 rfl (by kernel_rfl) (by kernel_rfl) (by kernel_rfl) (by kernel_rfl) (fun _ h => h.dropN 0 rfl) gd_none rfl (val_loadB (.head _) (lk rfl) ag_27) ?_
  refine wa_take 1 rfl (by kernel_rfl) (by kernel_rfl) (by kernel_rfl) (by kernel_rfl) (fun _ h => h.dropN 0 rfl) gd_none rfl (val_loadB (.tail _ (.tail _ (.tail _ (.head _)))) (lk rfl) ag_24) ?_
  refine wa_only 2 (by kernel_rfl) rfl ?_
  refine wl_callx rfl ci_12 (args1 (lk rfl)) (fun w1 hw => toSub_c _ _ _ _ _ w1 (hs.hp hw rfl) (by omega)) (fun _ => rfl) ?_
  rintro ⟨gb32, gc32, gs32⟩ ⟨hgl32, hgc32⟩
  refine wl_nil (px_qn (fun _ h => h.dropN 1 rfl) ?_)
  refine wa_only 3 (by kernel_rfl) rfl ?_
  refine wl_call gd_none rfl ci_14 (args2 (lk rfl) (lk rfl)) (fun hG w1 hw => eqSub_c _ _ _ _ _ _ _ _ _ _ w1 (Sl.own hw (.tail _ (.tail _ (.head _)))) (Sl.own hw (.head _)) (by omega)) ?_
  refine wl_nil (px_qn (fun _ h => h.dropN 1 rfl) ?_)
  refine wa_take 4 rfl (by kernel_rfl) (by kernel_rfl) (by kernel_rfl) (by kernel_rfl) (fun _ h => h.dropN 1 rfl) gd_none rfl (val_not (lk rfl)) ?_
  refine wa_done (by kernel_rfl) ?_
  refine px_then ?_
  refine wc_cond (lk rfl) (fun hc2 => ?_) (fun hc2 => ?_)
  · refine wc_seq ?_
    refine wc_region ?_
    refine wl_v rfl (val_assign lkc) ?_
    refine wl_nil ?_
    refine px_then ?_
    refine wc_ret ?_
    refine px_then_ret ?_
    refine fin1 rfl (res_tmp rfl) (fun w1 hw => ?_)
    first | exact ⟨rfl, hw.drop rfl⟩ | (exfalso; revert hc2; simp; done) | (exfalso; revert hc2; simp; omega) | (exfalso; revert hc2; rw [Sub.eqb_refl]; simp; done) | (exfalso; revert hc2; rw [eqRows_refl eqB_refl]; simp; done) | (exfalso; revert hc2; rw [eqRows_refl eqB_refl]; simp; omega) | (exfalso; revert hc2; rw [eqB_refl]; simp; done) | (exfalso; have h9 := of_decide_eq_true hc2; omega)
  refine wc_skip ?_
  refine px_then ?_
  refine wc_seq ?_
  refine wc_region ?_
  refine wl_v rfl (val_assign lkc) ?_
  refine wl_nil ?_
  refine px_then ?_
  refine wc_ret ?_
  refine fin1 rfl (res_tmp rfl) (fun w1 hw => ?_)
  first | exact ⟨rfl, hw.drop rfl⟩ | (exfalso; revert hc2; simp; done) | (exfalso; revert hc2; simp; omega) | (exfalso; revert hc2; rw [Sub.eqb_refl]; simp; done) | (exfalso; revert hc2; rw [eqRows_refl eqB_refl]; simp; done) | (exfalso; revert hc2; rw [eqRows_refl eqB_refl]; simp; omega) | (exfalso; revert hc2; rw [eqB_refl]; simp; done) | (exfalso; have h9 := of_decide_eq_true hc2; omega)

theorem law_IsValidSubscription (s : Sub) (A : Option Addr) (b o c : Nat) (w : World) (hs : Sl w A b o (flat encI s.nets)) (hm : s.nets.length ≤ 9223372036854775807) :
    Calls Try.prog 4 #[s.val A c] w fun e w' => e = .returned (.bool true) ∧ HP w [] w' := by
  refine calls_entry [] _ Try.func4 rfl Try.ntmps4 (HP.refl w) (env1 rfl) ?_
  refine wc_seq ?_
  refine wc_region ?_
  refine wl_box (lk rfl) rfl fun b1 => ?_
  refine wl_v rfl (val_assign lkc) ?_
  refine wl_nil ?_
  refine px_then ?_
  refine wc_seq ?_
  refine wc_region ?_
  refine wl_v rfl (val_assign lkc) ?_
  refine wl_nil ?_
  refine px_then ?_
  refine wc_seq ?_
  refine wc_region ?_
  refine wl_v rfl (val_loadB (.head _) (lk rfl) ag_24) ?_
  refine wl_v rfl (val_move (lk rfl)) ?_
  refine wl_call gd_none rfl ci_10 (args2 (lk rfl) (lk rfl)) (fun hG w1 hw => szSub_c s _ _ _ w1 (by omega) (by omega)) ?_
  refine wl_v rfl (val_assign (lk rfl)) ?_
  refine wl_nil ?_
  refine px_then ?_
  refine wc_seq ?_
  refine wc_seq ?_
  refine wc_region ?_
  refine wl_v rfl (val_move (lk rfl)) ?_
  refine wl_v rfl (val_lss (lk rfl) lkc) ?_
  refine wl_nil ?_
  refine px_then ?_
  refine wc_cond (lk rfl) (fun hc0 => ?_) (fun hc0 => ?_)
  · refine wc_seq ?_
    refine wc_region ?_
    refine wl_v rfl (val_assign lkc) ?_
    refine wl_nil ?_
    refine px_then ?_
    refine wc_ret ?_
    refine px_then_ret ?_
    refine fin1 rfl (res_tmp rfl) (fun w1 hw => ?_)
    first | exact ⟨rfl, hw.drop rfl⟩ | (exfalso; revert hc0; simp; done) | (exfalso; revert hc0; simp; omega) | (exfalso; revert hc0; rw [Sub.eqb_refl]; simp; done) | (exfalso; revert hc0; rw [eqRows_refl eqB_refl]; simp; done) | (exfalso; revert hc0; rw [eqRows_refl eqB_refl]; simp; omega) | (exfalso; revert hc0; rw [eqB_refl]; simp; done) | (exfalso; have h9 := of_decide_eq_true hc0; omega)
  have hl : s.nets.length ≤ 1048576 := by have h9 := of_decide_eq_false hc0; unfold szN at h9; split at h9 <;> omega
  refine wc_skip ?_
  refine px_then ?_
  refine wc_seq ?_
  refine wc_region ?_
  refine wl_v rfl (val_loadB (.head _) (lk rfl) ag_24) ?_
  refine wl_callx rfl ci_12 (args1 (lk rfl)) (fun w1 hw => toSub_c _ _ _ _ _ w1 (hs.hp hw rfl) (by omega)) (fun _ => rfl) ?_
  rintro ⟨gb13, gc13, gs13⟩ ⟨hgl13, hgc13⟩
  refine wl_call gd_none rfl ci_15 (args1 (lk rfl)) (fun hG w1 hw => sOk_c _ _ _ _ _ w1 (Sl.own hw (.head _)) (by omega)) ?_
  refine wl_v rfl (val_assign (lk rfl)) ?_
  refine wl_nil ?_
  refine px_then ?_
  refine wc_seq ?_
  refine wc_region ?_
  refine wl_v rfl (val_loadB (.tail _ (.head _)) (lk rfl) ag_24) ?_
  refine wl_callx rfl ci_12 (args1 (lk rfl)) (fun w1 hw => toSub_c _ _ _ _ _ w1 (hs.hp hw rfl) (by omega)) (fun _ => rfl) ?_
  rintro ⟨gb16, gc16, gs16⟩ ⟨hgl16, hgc16⟩
  refine wl_alloc zc_27 rfl fun b2 => ?_
  refine wl_storeB 0 rfl (lk rfl) (lk rfl) ag_27 rfl rfl ?_
  refine wl_nil ?_
  refine px_then ?_
  refine wc_seq ?_
  refine wc_region ?_
  refine wl_v rfl (val_loadB (.head _) (lk rfl) ag_27) ?_
  refine wl_call gd_none rfl ci_16 (args1 (lk rfl)) (fun hG w1 hw => Ok_c _ _ _ _ _ w1 (Sl.own hw (.tail _ (.head _))) (by omega)) ?_
  refine wl_v rfl (val_assign (lk rfl)) ?_
  refine wl_nil ?_
  refine px_then ?_
  refine wc_seq ?_
  refine wc_seq ?_
  refine wc_region ?_
  refine wl_v rfl (val_move (lk rfl)) ?_
  refine wl_v rfl (val_move (lk rfl)) ?_
  refine wl_v rfl (val_neqB Try.underlying4 (lk rfl) (lk rfl)) ?_
  refine wl_nil ?_
  refine px_then ?_
  refine wc_cond (lk rfl) (fun hc1 => ?_) (fun hc1 => ?_)
  · refine wc_seq ?_
    refine wc_region ?_
    refine wl_v rfl (val_assign lkc) ?_
    refine wl_nil ?_
    refine px_then ?_
    refine wc_ret ?_
    refine px_then_ret ?_
    refine fin1 rfl (res_tmp rfl) (fun w1 hw => ?_)
    first | exact ⟨rfl, hw.drop rfl⟩ | (exfalso; revert hc1; simp; done) | (exfalso; revert hc1; simp; omega) | (exfalso; revert hc1; rw [Sub.eqb_refl]; simp; done) | (exfalso; revert hc1; rw [eqRows_refl eqB_refl]; simp; done) | (exfalso; revert hc1; rw [eqRows_refl eqB_refl]; simp; omega) | (exfalso; revert hc1; rw [eqB_refl]; simp; done) | (exfalso; have h9 := of_decide_eq_true hc1; omega)
  refine wc_skip ?_
  refine px_then ?_
  refine wc_seq ?_
  refine wc_seq ?_
  refine wc_region_a0 5 mo_ rfl ?_
  refine wa_take 0 rfl (by kernel_rfl) (by kernel_rfl) (by kernel_rfl) (by kernel_rfl) (fun _ h => h.dropN 0 rfl) gd_none rfl (val_loadB (.head _) (lk rfl) ag_27) ?_
  refine wa_take 1 rfl (by kernel_rfl) (by kernel_rfl) (by kernel_rfl) (by kernel_rfl) (fun _ h => h.dropN 0 rfl) gd_none rfl (val_loadB (.tail _ (.tail _ (.tail _ (.head _)))) (lk rfl) ag_24) ?_
  refine wa_only 2 (by kernel_rfl) rfl ?_
  refine wl_callx rfl ci_12 (args1 (lk rfl)) (fun w1 hw => toSub_c _ _ _ _ _ w1 (hs.hp hw rfl) (by omega)) (fun _ => rfl) ?_
  rintro ⟨gb24, gc24, gs24⟩ ⟨hgl24, hgc24⟩
  refine wl_nil (px_qn (fun _ h => h.dropN 1 rfl) ?_)
  refine wa_only 3 (by kernel_rfl) rfl ?_
  refine wl_call gd_none rfl ci_14 (args2 (lk rfl) (lk rfl)) (fun hG w1 hw => eqSub_c _ _ _ _ _ _ _ _ _ _ w1 (Sl.own hw (.tail _ (.tail _ (.head _)))) (Sl.own hw (.head _)) (by omega)) ?_
  refine wl_nil (px_qn (fun _ h => h.dropN 1 rfl) ?_)
  refine wa_take 4 rfl (by kernel_rfl) (by kernel_rfl) (by kernel_rfl) (by kernel_rfl) (fun _ h => h.dropN 1 rfl) gd_none rfl (val_not (lk rfl)) ?_
  refine wa_done (by kernel_rfl) ?_
  refine px_then ?_
  refine wc_cond (lk rfl) (fun hc2 => ?_) (fun hc2 => ?_)
  · refine wc_seq ?_
    refine wc_region ?_
    refine wl_v rfl (val_assign lkc) ?_
    refine wl_nil ?_
    refine px_then ?_
    refine wc_ret ?_
    refine px_then_ret ?_
    refine fin1 rfl (res_tmp rfl) (fun w1 hw => ?_)
    first | exact ⟨rfl, hw.drop rfl⟩ | (exfalso; revert hc2; simp; done) | (exfalso; revert hc2; simp; omega) | (exfalso; revert hc2; rw [Sub.eqb_refl]; simp; done) | (exfalso; revert hc2; rw [eqRows_refl eqB_refl]; simp; done) | (exfalso; revert hc2; rw [eqRows_refl eqB_refl]; simp; omega) | (exfalso; revert hc2; rw [eqB_refl]; simp; done) | (exfalso; have h9 := of_decide_eq_true hc2; omega)
  refine wc_skip ?_
  refine px_then ?_
  refine wc_seq ?_
  refine wc_region ?_
  refine wl_v rfl (val_assign lkc) ?_
  refine wl_nil ?_
  refine px_then ?_
  refine wc_ret ?_
  refine fin1 rfl (res_tmp rfl) (fun w1 hw => ?_)
  first | exact ⟨rfl, hw.drop rfl⟩ | (exfalso; revert hc2; simp; done) | (exfalso; revert hc2; simp; omega) | (exfalso; revert hc2; rw [Sub.eqb_refl]; simp; done) | (exfalso; revert hc2; rw [eqRows_refl eqB_refl]; simp; done) | (exfalso; revert hc2; rw [eqRows_refl eqB_refl]; simp; omega) | (exfalso; revert hc2; rw [eqB_refl]; simp; done) | (exfalso; have h9 := of_decide_eq_true hc2; omega)

theorem law_EqualSubscriptions (s t : Sub) (A B : Option Addr) (b o c b2 o2 c2 : Nat) (w : World) (hs : Sl w A b o (flat encI s.nets)) (hm : s.nets.length ≤ 9223372036854775807) (hs2 : Sl w B b2 o2 (flat encI t.nets)) (hm2 : t.nets.length ≤ 9223372036854775807) :
    Calls Try.prog 5 #[s.val A c, t.val B c2] w fun e w' => e = .returned (.bool true) ∧ HP w [] w' := by
  refine calls_entry [] _ Try.func5 rfl Try.ntmps5 (HP.refl w) (env2 rfl) ?_
  refine wc_seq ?_
  refine wc_region ?_
  refine wl_box (lk rfl) rfl fun b1 => ?_
  refine wl_box (lk rfl) rfl fun b2 => ?_
  refine wl_v rfl (val_assign lkc) ?_
  refine wl_nil ?_
  refine px_then ?_
  refine wc_seq ?_
  refine wc_region ?_
  refine wl_v rfl (val_assign lkc) ?_
  refine wl_nil ?_
  refine px_then ?_
  refine wc_seq ?_
  refine wc_region ?_
  refine wl_v rfl (val_loadB (.tail _ (.head _)) (lk rfl) ag_24) ?_
  refine wl_v rfl (val_move (lk rfl)) ?_
  refine wl_call gd_none rfl ci_10 (args2 (lk rfl) (lk rfl)) (fun hG w1 hw => szSub_c s _ _ _ w1 (by omega) (by omega)) ?_
  refine wl_v rfl (val_assign (lk rfl)) ?_
  refine wl_nil ?_
  refine px_then ?_
  refine wc_seq ?_
  refine wc_seq ?_
  refine wc_region ?_
  refine wl_v rfl (val_move (lk rfl)) ?_
  refine wl_v rfl (val_lss (lk rfl) lkc) ?_
  refine wl_nil ?_
  refine px_then ?_
  refine wc_cond (lk rfl) (fun hc0 => ?_) (fun hc0 => ?_)
  · refine wc_seq ?_
    refine wc_region ?_
    refine wl_v rfl (val_assign lkc) ?_
    refine wl_nil ?_
    refine px_then ?_
    refine wc_ret ?_
    refine px_then_ret ?_
    refine fin1 rfl (res_tmp rfl) (fun w1 hw => ?_)
    first | exact ⟨rfl, hw.drop rfl⟩ | (exfalso; revert hc0; simp; done) | (exfalso; revert hc0; simp; omega) | (exfalso; revert hc0; rw [Sub.eqb_refl]; simp; done) | (exfalso; revert hc0; rw [eqRows_refl eqB_refl]; simp; done) | (exfalso; revert hc0; rw [eqRows_refl eqB_refl]; simp; omega) | (exfalso; revert hc0; rw [eqB_refl]; simp; done) | (exfalso; have h9 := of_decide_eq_true hc0; omega)
  have hl : s.nets.length ≤ 1048576 := by have h9 := of_decide_eq_false hc0; unfold szN at h9; split at h9 <;> omega
  have hz : 0 ≤ szN 1048576 s.nets.length ∧ szN 1048576 s.nets.length ≤ 1048576 := by have h9 := of_decide_eq_false hc0; unfold szN at h9 ⊢; split at h9 <;> rename_i hq <;> simp only [hq] <;> simp <;> omega
  refine wc_skip ?_
  refine px_then ?_
  refine wc_seq ?_
  refine wc_region ?_
  refine wl_v rfl (val_loadB (.head _) (lk rfl) ag_24) ?_
  refine wl_v rfl (val_move (lk rfl)) ?_
  refine wl_call gd_none rfl ci_10 (args2 (lk rfl) (lk rfl)) (fun hG w1 hw => szSub_c t _ _ _ w1 (by omega) (by omega)) ?_
  refine wl_v rfl (val_assign (lk rfl)) ?_
  refine wl_nil ?_
  refine px_then ?_
  refine wc_seq ?_
  refine wc_seq ?_
  refine wc_region ?_
  refine wl_v rfl (val_move (lk rfl)) ?_
  refine wl_v rfl (val_lss (lk rfl) lkc) ?_
  refine wl_nil ?_
  refine px_then ?_
  refine wc_cond (lk rfl) (fun hc1 => ?_) (fun hc1 => ?_)
  · refine wc_seq ?_
    refine wc_region ?_
    refine wl_v rfl (val_assign lkc) ?_
    refine wl_nil ?_
    refine px_then ?_
    refine wc_ret ?_
    refine px_then_ret ?_
    refine fin1 rfl (res_tmp rfl) (fun w1 hw => ?_)
    first | exact ⟨rfl, hw.drop rfl⟩ | (exfalso; revert hc1; simp; done) | (exfalso; revert hc1; simp; omega) | (exfalso; revert hc1; rw [Sub.eqb_refl]; simp; done) | (exfalso; revert hc1; rw [eqRows_refl eqB_refl]; simp; done) | (exfalso; revert hc1; rw [eqRows_refl eqB_refl]; simp; omega) | (exfalso; revert hc1; rw [eqB_refl]; simp; done) | (exfalso; have h9 := of_decide_eq_true hc1; omega)
  have hl2 : t.nets.length ≤ 1048576 := by have h9 := of_decide_eq_false hc1; unfold szN at h9; split at h9 <;> omega
  refine wc_skip ?_
  refine px_then ?_
  refine wc_seq ?_
  refine wc_region_a0 6 mo_ rfl ?_
  refine wa_take 0 rfl (by kernel_rfl) (by kernel_rfl) (by kernel_rfl) (by kernel_rfl) (fun _ h => h.dropN 0 rfl) gd_none rfl (val_loadB (.tail _ (.head _)) (lk rfl) ag_24) ?_
  refine wa_take 2 rfl (by kernel_rfl) (by kernel_rfl) (by kernel_rfl) (by kernel_rfl) (fun _ h => h.dropN 0 rfl) gd_none rfl (val_loadB (.head _) (lk rfl) ag_24) ?_
  refine wa_only 1 (by kernel_rfl) rfl ?_
  refine wl_callx rfl ci_12 (args1 (lk rfl)) (fun w1 hw => toSub_c _ _ _ _ _ w1 (hs.hp hw rfl) (by omega)) (fun _ => rfl) ?_
  rintro ⟨gb21, gc21, gs21⟩ ⟨hgl21, hgc21⟩
  refine wl_nil (px_qn (fun _ h => h.dropN 1 rfl) ?_)
  refine wa_only 3 (by kernel_rfl) rfl ?_
  refine wl_callx rfl ci_12 (args1 (lk rfl)) (fun w1 hw => toSub_c _ _ _ _ _ w1 (hs2.hp hw rfl) (by omega)) (fun _ => rfl) ?_
  rintro ⟨gb23, gc23, gs23⟩ ⟨hgl23, hgc23⟩
  refine wl_nil (px_qn (fun _ h => h.dropN 2 rfl) ?_)
  refine wa_only 4 (by kernel_rfl) rfl ?_
  refine wl_call gd_none rfl ci_17 (args2 (lk rfl) (lk rfl)) (fun hG w1 hw => sEqSub_c _ _ _ _ _ _ _ _ _ _ w1 (Sl.own hw (.tail _ (.head _))) (Sl.own hw (.head _)) (by omega)) ?_
  refine wl_nil (px_qn (fun _ h => h.dropN 2 rfl) ?_)
  refine wa_take 5 rfl (by kernel_rfl) (by kernel_rfl) (by kernel_rfl) (by kernel_rfl) (fun _ h => h.dropN 2 rfl) gd_none rfl (val_assign (lk rfl)) ?_
  refine wa_done (by kernel_rfl) ?_
  refine px_then ?_
  refine wc_seq ?_
  refine wc_region ?_
  refine wl_v rfl (val_loadB (.tail _ (.tail _ (.tail _ (.head _)))) (lk rfl) ag_24) ?_
  refine wl_callx rfl ci_12 (args1 (lk rfl)) (fun w1 hw => toSub_c _ _ _ _ _ w1 (hs.hp hw rfl) (by omega)) (fun _ => rfl) ?_
  rintro ⟨gb26, gc26, gs26⟩ ⟨hgl26, hgc26⟩
  refine wl_alloc zc_27 rfl fun b3 => ?_
  refine wl_storeB 0 rfl (lk rfl) (lk rfl) ag_27 rfl rfl ?_
  refine wl_nil ?_
  refine px_then ?_
  refine wc_seq ?_
  refine wc_region ?_
  refine wl_v rfl (val_loadB (.tail _ (.tail _ (.tail _ (.tail _ (.head _))))) (lk rfl) ag_24) ?_
  refine wl_callx rfl ci_12 (args1 (lk rfl)) (fun w1 hw => toSub_c _ _ _ _ _ w1 (hs2.hp hw rfl) (by omega)) (fun _ => rfl) ?_
  rintro ⟨gb28, gc28, gs28⟩ ⟨hgl28, hgc28⟩
  refine wl_alloc zc_27 rfl fun b4 => ?_
  refine wl_storeB 0 rfl (lk rfl) (lk rfl) ag_27 rfl rfl ?_
  refine wl_nil ?_
  refine px_then ?_
  refine wc_seq ?_
  refine wc_region ?_
  refine wl_v rfl (val_loadB (.tail _ (.tail _ (.head _))) (lk rfl) ag_27) ?_
  refine wl_v rfl (val_loadB (.head _) (lk rfl) ag_27) ?_
  refine wl_call gd_none rfl ci_18 (args2 (lk rfl) (lk rfl)) (fun hG w1 hw => EqSub_c _ _ _ _ _ _ _ _ _ _ w1 (Sl.own hw (.tail _ (.tail _ (.tail _ (.head _))))) (Sl.own hw (.tail _ (.head _))) (by omega)) ?_
  refine wl_v rfl (val_assign (lk rfl)) ?_
  refine wl_nil ?_
  refine px_then ?_
  refine wc_seq ?_
  refine wc_seq ?_
  refine wc_region ?_
  refine wl_v rfl (val_move (lk rfl)) ?_
  refine wl_v rfl (val_move (lk rfl)) ?_
  refine wl_v rfl (val_neqB Try.underlying4 (lk rfl) (lk rfl)) ?_
  refine wl_nil ?_
  refine px_then ?_
  refine wc_cond (lk rfl) (fun hc2 => ?_) (fun hc2 => ?_)
  · refine wc_seq ?_
    refine wc_region ?_
    refine wl_v rfl (val_assign lkc) ?_
    refine wl_nil ?_
    refine px_then ?_
    refine wc_ret ?_
    refine px_then_ret ?_
    refine fin1 rfl (res_tmp rfl) (fun w1 hw => ?_)
    first | exact ⟨rfl, hw.drop rfl⟩ | (exfalso; revert hc2; simp; done) | (exfalso; revert hc2; simp; omega) | (exfalso; revert hc2; rw [Sub.eqb_refl]; simp; done) | (exfalso; revert hc2; rw [eqRows_refl eqB_refl]; simp; done) | (exfalso; revert hc2; rw [eqRows_refl eqB_refl]; simp; omega) | (exfalso; revert hc2; rw [eqB_refl]; simp; done) | (exfalso; have h9 := of_decide_eq_true hc2; omega)
  refine wc_skip ?_
  refine px_then ?_
  refine wc_seq ?_
  refine wc_seq ?_
  refine wc_region_a0 5 mo_ rfl ?_
  refine wa_take 0 rfl (by kernel_rfl) (by kernel_rfl) (by kernel_rfl) (by kernel_rfl) (fun _ h => h.dropN 0 rfl) gd_none rfl (val_loadB (.tail _ (.tail _ (.head _))) (lk rfl) ag_27) ?_
  refine wa_take 1 rfl (by kernel_rfl) (by kernel_rfl) (by kernel_rfl) (by kernel_rfl) (fun _ h => h.dropN 0 rfl) gd_none rfl (val_loadB (.tail _ (.tail _ (.tail _ (.tail _ (.tail _ (.tail _ (.tail _ (.head _)))))))) (lk rfl) ag_24) ?_
  refine wa_only 2 (by kernel_rfl) rfl ?_
  refine wl_callx rfl ci_12 (args1 (lk rfl)) (fun w1 hw => toSub_c _ _ _ _ _ w1 (hs.hp hw rfl) (by omega)) (fun _ => rfl) ?_
  rintro ⟨gb37, gc37, gs37⟩ ⟨hgl37, hgc37⟩
  refine wl_nil (px_qn (fun _ h => h.dropN 1 rfl) ?_)
  refine wa_only 3 (by kernel_rfl) rfl ?_
  refine wl_call gd_none rfl ci_14 (args2 (lk rfl) (lk rfl)) (fun hG w1 hw => eqSub_c _ _ _ _ _ _ _ _ _ _ w1 (Sl.own hw (.tail _ (.tail _ (.tail _ (.tail _ (.head _)))))) (Sl.own hw (.head _)) (by omega)) ?_
  refine wl_nil (px_qn (fun _ h => h.dropN 1 rfl) ?_)
  refine wa_take 4 rfl (by kernel_rfl) (by kernel_rfl) (by kernel_rfl) (by kernel_rfl) (fun _ h => h.dropN 1 rfl) gd_none rfl (val_not (lk rfl)) ?_
  refine wa_done (by kernel_rfl) ?_
  refine px_then ?_
  refine wc_cond (lk rfl) (fun hc3 => ?_) (fun hc3 => ?_)
  · refine wc_seq ?_
    refine wc_region ?_
    refine wl_v rfl (val_assign lkc) ?_
    refine wl_nil ?_
    refine px_then ?_
    refine wc_ret ?_
    refine px_then_ret ?_
    refine fin1 rfl (res_tmp rfl) (fun w1 hw => ?_)
    first | exact ⟨rfl, hw.drop rfl⟩ | (exfalso; revert hc3; simp; done) | (exfalso; revert hc3; simp; omega) | (exfalso; revert hc3; rw [Sub.eqb_refl]; simp; done) | (exfalso; revert hc3; rw [eqRows_refl eqB_refl]; simp; done) | (exfalso; revert hc3; rw [eqRows_refl eqB_refl]; simp; omega) | (exfalso; revert hc3; rw [eqB_refl]; simp; done) | (exfalso; have h9 := of_decide_eq_true hc3; omega)
  refine wc_skip ?_
  refine px_then ?_
  refine wc_seq ?_
  refine wc_seq ?_
  refine wc_region_a0 5 mo_ rfl ?_
  refine wa_take 0 rfl (by kernel_rfl) (by kernel_rfl) (by kernel_rfl) (by kernel_rfl) (fun _ h => h.dropN 0 rfl) gd_none rfl (val_loadB (.tail _ (.head _)) (lk rfl) ag_27) ?_
  refine wa_take 1 rfl (by kernel_rfl) (by kernel_rfl) (by kernel_rfl) (by kernel_rfl) (fun _ h => h.dropN 0 rfl) gd_none rfl (val_loadB (.tail _ (.tail _ (.tail _ (.tail _ (.tail _ (.tail _ (.tail _ (.head _)))))))) (lk rfl) ag_24) ?_
  refine wa_only 2 (by kernel_rfl) rfl ?_
  refine wl_callx rfl ci_12 (args1 (lk rfl)) (fun w1 hw => toSub_c _ _ _ _ _ w1 (hs2.hp hw rfl) (by omega)) (fun _ => rfl) ?_
  rintro ⟨gb42, gc42, gs42⟩ ⟨hgl42, hgc42⟩
  refine wl_nil (px_qn (fun _ h => h.dropN 1 rfl) ?_)
  refine wa_only 3 (by kernel_rfl) rfl ?_
  refine wl_call gd_none rfl ci_14 (args2 (lk rfl) (lk rfl)) (fun hG w1 hw => eqSub_c _ _ _ _ _ _ _ _ _ _ w1 (Sl.own hw (.tail _ (.tail _ (.tail _ (.head _))))) (Sl.own hw (.head _)) (by omega)) ?_
  refine wl_nil (px_qn (fun _ h => h.dropN 1 rfl) ?_)
  refine wa_take 4 rfl (by kernel_rfl) (by kernel_rfl) (by kernel_rfl) (by kernel_rfl) (fun _ h => h.dropN 1 rfl) gd_none rfl (val_not (lk rfl)) ?_
  refine wa_done (by kernel_rfl) ?_
  refine px_then ?_
  refine wc_cond (lk rfl) (fun hc4 => ?_) (fun hc4 => ?_)
  · refine wc_seq ?_
    refine wc_region ?_
    refine wl_v rfl (val_assign lkc) ?_
    refine wl_nil ?_
    refine px_then ?_
    refine wc_ret ?_
    refine px_then_ret ?_
    refine fin1 rfl (res_tmp rfl) (fun w1 hw => ?_)
    first | exact ⟨rfl, hw.drop rfl⟩ | (exfalso; revert hc4; simp; done) | (exfalso; revert hc4; simp; omega) | (exfalso; revert hc4; rw [Sub.eqb_refl]; simp; done) | (exfalso; revert hc4; rw [eqRows_refl eqB_refl]; simp; done) | (exfalso; revert hc4; rw [eqRows_refl eqB_refl]; simp; omega) | (exfalso; revert hc4; rw [eqB_refl]; simp; done) | (exfalso; have h9 := of_decide_eq_true hc4; omega)
  refine wc_skip ?_
  refine px_then ?_
  refine wc_seq ?_
  refine wc_region ?_
  refine wl_v rfl (val_assign lkc) ?_
  refine wl_nil ?_
  refine px_then ?_
  refine wc_ret ?_
  refine fin1 rfl (res_tmp rfl) (fun w1 hw => ?_)
  first | exact ⟨rfl, hw.drop rfl⟩ | (exfalso; revert hc4; simp; done) | (exfalso; revert hc4; simp; omega) | (exfalso; revert hc4; rw [Sub.eqb_refl]; simp; done) | (exfalso; revert hc4; rw [eqRows_refl eqB_refl]; simp; done) | (exfalso; revert hc4; rw [eqRows_refl eqB_refl]; simp; omega) | (exfalso; revert hc4; rw [eqB_refl]; simp; done) | (exfalso; have h9 := of_decide_eq_true hc4; omega)

theorem law_LimitBearer (s : Sub) (A : Option Addr) (b o c : Nat) (r : Bear) (w : World) (hs : Sl w A b o (flat encI s.nets)) (hm : s.nets.length ≤ 9223372036854775807) :
    Calls Try.prog 6 #[s.val A c, .agg (recV encB r).toArray] w fun e w' => e = .returned (.bool true) ∧ HP w [] w' := by
  refine calls_entry [] _ Try.func6 rfl Try.ntmps6 (HP.refl w) (env2 rfl) ?_
  refine wc_seq ?_
  refine wc_region ?_
  refine wl_box (lk rfl) rfl fun b1 => ?_
  refine wl_box (lk rfl) rfl fun b2 => ?_
  refine wl_v rfl (val_assign lkc) ?_
  refine wl_nil ?_
  refine px_then ?_
  refine wc_seq ?_
  refine wc_region ?_
  refine wl_v rfl (val_assign lkc) ?_
  refine wl_nil ?_
  refine px_then ?_
  refine wc_seq ?_
  refine wc_region ?_
  refine wl_v rfl (val_loadB (.tail _ (.head _)) (lk rfl) ag_24) ?_
  refine wl_v rfl (val_move (lk rfl)) ?_
  refine wl_call gd_none rfl ci_10 (args2 (lk rfl) (lk rfl)) (fun hG w1 hw => szSub_c s _ _ _ w1 (by omega) (by omega)) ?_
  refine wl_v rfl (val_assign (lk rfl)) ?_
  refine wl_nil ?_
  refine px_then ?_
  refine wc_seq ?_
  refine wc_seq ?_
  refine wc_region ?_
  refine wl_v rfl (val_move (lk rfl)) ?_
  refine wl_v rfl (val_lss (lk rfl) lkc) ?_
  refine wl_nil ?_
  refine px_then ?_
  refine wc_cond (lk rfl) (fun hc0 => ?_) (fun hc0 => ?_)
  · refine wc_seq ?_
    refine wc_region ?_
    refine wl_v rfl (val_assign lkc) ?_
    refine wl_nil ?_
    refine px_then ?_
    refine wc_ret ?_
    refine px_then_ret ?_
    refine fin1 rfl (res_tmp rfl) (fun w1 hw => ?_)
    first | exact ⟨rfl, hw.drop rfl⟩ | (exfalso; revert hc0; simp; done) | (exfalso; revert hc0; simp; omega) | (exfalso; revert hc0; rw [Sub.eqb_refl]; simp; done) | (exfalso; revert hc0; rw [eqRows_refl eqB_refl]; simp; done) | (exfalso; revert hc0; rw [eqRows_refl eqB_refl]; simp; omega) | (exfalso; revert hc0; rw [eqB_refl]; simp; done) | (exfalso; have h9 := of_decide_eq_true hc0; omega)
  have hl : s.nets.length ≤ 1048576 := by have h9 := of_decide_eq_false hc0; unfold szN at h9; split at h9 <;> omega
  refine wc_skip ?_
  refine px_then ?_
  refine wc_seq ?_
  refine wc_region_a0 7 mo_ rfl ?_
  refine wa_take 0 rfl (by kernel_rfl) (by kernel_rfl) (by kernel_rfl) (by kernel_rfl) (fun _ h => h.dropN 0 rfl) gd_none rfl (val_loadB (.tail _ (.head _)) (lk rfl) ag_24) ?_
  refine wa_take 2 rfl (by kernel_rfl) (by kernel_rfl) (by kernel_rfl) (by kernel_rfl) (fun _ h => h.dropN 0 rfl) gd_none rfl (val_loadB (.head _) (lk rfl) ag_35) ?_
  refine wa_chn1 [(false, 1, 15), (false, 3, 17), (false, 4, 18)] 5 6 4 [1, 3, 4, 5] (fun _ h => h.dropN 0 rfl) (by kernel_rfl) (by kernel_rfl) rfl rfl (fun _ _ => ops_alloc rfl zc_36 rfl) ?_
  refine ch_o (ops_callx rfl rfl ci_12 (args1 (lk rfl)) (fun w1 hw => toSub_c _ _ _ _ _ w1 (hs.hp hw rfl) (by omega)) (fun _ => rfl)) ?_
  rintro _ _ ⟨⟨gb15, gc15, gs15⟩, ⟨hgl15, hgc15⟩, rfl, rfl⟩
  refine ch_o (ops_call rfl rfl ci_20 (args1 (lk rfl)) (fun w1 hw => toBearer_c _ w1)) ?_
  rintro _ _ ⟨rfl, rfl⟩
  refine ch_o (ops_call rfl rfl ci_19 (args2 (lk rfl) (lk rfl)) (fun w1 hw => sLim_c s _ _ r w1)) ?_
  rintro _ _ ⟨rfl, rfl⟩
  refine ch_nil ?_
  rintro _ _ ⟨b3, rfl, rfl⟩
  refine wa_only 6 (by kernel_rfl) rfl ?_
  refine wl_storeB 0 rfl (lk rfl) (lk rfl) ag_36 rfl rfl ?_
  refine wl_nil (px_qn (fun _ h => h.dropN 2 rfl) ?_)
  refine wa_done (by kernel_rfl) ?_
  refine px_then ?_
  refine wc_seq ?_
  refine wc_region ?_
  refine wl_v rfl (val_loadB (.tail _ (.tail _ (.tail _ (.head _)))) (lk rfl) ag_24) ?_
  refine wl_callx rfl ci_12 (args1 (lk rfl)) (fun w1 hw => toSub_c _ _ _ _ _ w1 (hs.hp hw rfl) (by omega)) (fun _ => rfl) ?_
  rintro ⟨gb20, gc20, gs20⟩ ⟨hgl20, hgc20⟩
  refine wl_alloc zc_27 rfl fun b4 => ?_
  refine wl_storeB 0 rfl (lk rfl) (lk rfl) ag_27 rfl rfl ?_
  refine wl_nil ?_
  refine px_then ?_
  refine wc_seq ?_
  refine wc_region_a0 6 mo_ rfl ?_
  refine wa_take 0 rfl (by kernel_rfl) (by kernel_rfl) (by kernel_rfl) (by kernel_rfl) (fun _ h => h.dropN 0 rfl) gd_none rfl (val_loadB (.head _) (lk rfl) ag_27) ?_
  refine wa_take 1 rfl (by kernel_rfl) (by kernel_rfl) (by kernel_rfl) (by kernel_rfl) (fun _ h => h.dropN 0 rfl) gd_none rfl (val_loadB (.tail _ (.tail _ (.tail _ (.tail _ (.head _))))) (lk rfl) ag_35) ?_
  refine wa_chn1 [(false, 2, 23), (false, 3, 24)] 4 8 3 [2, 3, 4] (fun _ h => h.dropN 0 rfl) (by kernel_rfl) (by kernel_rfl) rfl rfl (fun _ _ => ops_alloc rfl zc_36 rfl) ?_
  refine ch_o (ops_call rfl rfl ci_20 (args1 (lk rfl)) (fun w1 hw => toBearer_c _ w1)) ?_
  rintro _ _ ⟨rfl, rfl⟩
  refine ch_o (ops_call rfl rfl ci_21 (args2 (lk rfl) (lk rfl)) (fun w1 hw => Lim_c s _ _ r w1)) ?_
  rintro _ _ ⟨rfl, rfl⟩
  refine ch_nil ?_
  rintro _ _ ⟨b5, rfl, rfl⟩
  refine wa_only 5 (by kernel_rfl) rfl ?_
  refine wl_storeB 0 rfl (lk rfl) (lk rfl) ag_36 rfl rfl ?_
  refine wl_nil (px_qn (fun _ h => h.dropN 1 rfl) ?_)
  refine wa_done (by kernel_rfl) ?_
  refine px_then ?_
  refine wc_seq ?_
  refine wc_seq ?_
  refine wc_region ?_
  refine wl_v rfl (val_loadB (.head _) (lk rfl) ag_36) ?_
  refine wl_v rfl (val_loadB (.tail _ (.tail _ (.tail _ (.head _)))) (lk rfl) ag_36) ?_
  refine wl_call gd_none rfl ci_22 (args2 (lk rfl) (lk rfl)) (fun hG w1 hw => eqBearer_c _ _ w1) ?_
  refine wl_v rfl (val_not (lk rfl)) ?_
  refine wl_nil ?_
  refine px_then ?_
  refine wc_cond (lk rfl) (fun hc1 => ?_) (fun hc1 => ?_)
  · refine wc_seq ?_
    refine wc_region ?_
    refine wl_v rfl (val_assign lkc) ?_
    refine wl_nil ?_
    refine px_then ?_
    refine wc_ret ?_
    refine px_then_ret ?_
    refine fin1 rfl (res_tmp rfl) (fun w1 hw => ?_)
    first | exact ⟨rfl, hw.drop rfl⟩ | (exfalso; revert hc1; simp; done) | (exfalso; revert hc1; simp; omega) | (exfalso; revert hc1; rw [Sub.eqb_refl]; simp; done) | (exfalso; revert hc1; rw [eqRows_refl eqB_refl]; simp; done) | (exfalso; revert hc1; rw [eqRows_refl eqB_refl]; simp; omega) | (exfalso; revert hc1; rw [eqB_refl]; simp; done) | (exfalso; have h9 := of_decide_eq_true hc1; omega)
  refine wc_skip ?_
  refine px_then ?_
  refine wc_seq ?_
  refine wc_seq ?_
  refine wc_region_a0 5 mo_ rfl ?_
  refine wa_take 0 rfl (by kernel_rfl) (by kernel_rfl) (by kernel_rfl) (by kernel_rfl) (fun _ h => h.dropN 0 rfl) gd_none rfl (val_loadB (.tail _ (.head _)) (lk rfl) ag_27) ?_
  refine wa_take 1 rfl (by kernel_rfl) (by kernel_rfl) (by kernel_rfl) (by kernel_rfl) (fun _ h => h.dropN 0 rfl) gd_none rfl (val_loadB (.tail _ (.tail _ (.tail _ (.tail _ (.tail _ (.tail _ (.head _))))))) (lk rfl) ag_24) ?_
  refine wa_only 2 (by kernel_rfl) rfl ?_
  refine wl_callx rfl ci_12 (args1 (lk rfl)) (fun w1 hw => toSub_c _ _ _ _ _ w1 (hs.hp hw rfl) (by omega)) (fun _ => rfl) ?_
  rintro ⟨gb31, gc31, gs31⟩ ⟨hgl31, hgc31⟩
  refine wl_nil (px_qn (fun _ h => h.dropN 1 rfl) ?_)
  refine wa_only 3 (by kernel_rfl) rfl ?_
  refine wl_call gd_none rfl ci_14 (args2 (lk rfl) (lk rfl)) (fun hG w1 hw => eqSub_c _ _ _ _ _ _ _ _ _ _ w1 (Sl.own hw (.tail _ (.tail _ (.tail _ (.head _))))) (Sl.own hw (.head _)) (by omega)) ?_
  refine wl_nil (px_qn (fun _ h => h.dropN 1 rfl) ?_)
  refine wa_take 4 rfl (by kernel_rfl) (by kernel_rfl) (by kernel_rfl) (by kernel_rfl) (fun _ h => h.dropN 1 rfl) gd_none rfl (val_not (lk rfl)) ?_
  refine wa_done (by kernel_rfl) ?_
  refine px_then ?_
  refine wc_cond (lk rfl) (fun hc2 => ?_) (fun hc2 => ?_)
  · refine wc_seq ?_
    refine wc_region ?_
    refine wl_v rfl (val_assign lkc) ?_
    refine wl_nil ?_
    refine px_then ?_
    refine wc_ret ?_
    refine px_then_ret ?_
    refine fin1 rfl (res_tmp rfl) (fun w1 hw => ?_)
    first | exact ⟨rfl, hw.drop rfl⟩ | (exfalso; revert hc2; simp; done) | (exfalso; revert hc2; simp; omega) | (exfalso; revert hc2; rw [Sub.eqb_refl]; simp; done) | (exfalso; revert hc2; rw [eqRows_refl eqB_refl]; simp; done) | (exfalso; revert hc2; rw [eqRows_refl eqB_refl]; simp; omega) | (exfalso; revert hc2; rw [eqB_refl]; simp; done) | (exfalso; have h9 := of_decide_eq_true hc2; omega)
  refine wc_skip ?_
  refine px_then ?_
  refine wc_seq ?_
  refine wc_region ?_
  refine wl_v rfl (val_assign lkc) ?_
  refine wl_nil ?_
  refine px_then ?_
  refine wc_ret ?_
  refine fin1 rfl (res_tmp rfl) (fun w1 hw => ?_)
  first | exact ⟨rfl, hw.drop rfl⟩ | (exfalso; revert hc2; simp; done) | (exfalso; revert hc2; simp; omega) | (exfalso; revert hc2; rw [Sub.eqb_refl]; simp; done) | (exfalso; revert hc2; rw [eqRows_refl eqB_refl]; simp; done) | (exfalso; revert hc2; rw [eqRows_refl eqB_refl]; simp; omega) | (exfalso; revert hc2; rw [eqB_refl]; simp; done) | (exfalso; have h9 := of_decide_eq_true hc2; omega)

theorem law_WithinSubscription (s : Sub) (rs : List Bear) (A A2 : Option Addr) (b o c b2 o2 c2 : Nat) (w : World) (hs : Sl w A b o (flat encI s.nets)) (hm : s.nets.length ≤ 9223372036854775807) (hsr : Sl w A2 b2 o2 (flat encB rs)) (hmr : rs.length ≤ 9223372036854775807) :
    Calls Try.prog 7 #[s.val A c, .slice A2 rs.length c2] w fun e w' => e = .returned (.bool true) ∧ HP w [] w' := by
  refine calls_entry [] _ Try.func7 rfl Try.ntmps7 (HP.refl w) (env2 rfl) ?_
  refine wc_seq ?_
  refine wc_region ?_
  refine wl_box (lk rfl) rfl fun b1 => ?_
  refine wl_v rfl (val_assign lkc) ?_
  refine wl_nil ?_
  refine px_then ?_
  refine wc_seq ?_
  refine wc_region ?_
  refine wl_v rfl (val_assign lkc) ?_
  refine wl_nil ?_
  refine px_then ?_
  refine wc_seq ?_
  refine wc_region ?_
  refine wl_v rfl (val_loadB (.head _) (lk rfl) ag_24) ?_
  refine wl_v rfl (val_move (lk rfl)) ?_
  refine wl_call gd_none rfl ci_10 (args2 (lk rfl) (lk rfl)) (fun hG w1 hw => szSub_c s _ _ _ w1 (by omega) (by omega)) ?_
  refine wl_v rfl (val_assign (lk rfl)) ?_
  refine wl_nil ?_
  refine px_then ?_
  refine wc_seq ?_
  refine wc_seq ?_
  refine wc_region ?_
  refine wl_v rfl (val_move (lk rfl)) ?_
  refine wl_v rfl (val_lss (lk rfl) lkc) ?_
  refine wl_nil ?_
  refine px_then ?_
  refine wc_cond (lk rfl) (fun hc0 => ?_) (fun hc0 => ?_)
  · refine wc_seq ?_
    refine wc_region ?_
    refine wl_v rfl (val_assign lkc) ?_
    refine wl_nil ?_
    refine px_then ?_
    refine wc_ret ?_
    refine px_then_ret ?_
    refine fin1 rfl (res_tmp rfl) (fun w1 hw => ?_)
    first | exact ⟨rfl, hw.drop rfl⟩ | (exfalso; revert hc0; simp; done) | (exfalso; revert hc0; simp; omega) | (exfalso; revert hc0; rw [Sub.eqb_refl]; simp; done) | (exfalso; revert hc0; rw [eqRows_refl eqB_refl]; simp; done) | (exfalso; revert hc0; rw [eqRows_refl eqB_refl]; simp; omega) | (exfalso; revert hc0; rw [eqB_refl]; simp; done) | (exfalso; have h9 := of_decide_eq_true hc0; omega)
  have hl : s.nets.length ≤ 1048576 := by have h9 := of_decide_eq_false hc0; unfold szN at h9; split at h9 <;> omega
  have hz : 0 ≤ szN 1048576 s.nets.length ∧ szN 1048576 s.nets.length ≤ 1048576 := by have h9 := of_decide_eq_false hc0; unfold szN at h9 ⊢; split at h9 <;> rename_i hq <;> simp only [hq] <;> simp <;> omega
  refine wc_skip ?_
  refine px_then ?_
  refine wc_seq ?_
  refine wc_region ?_
  refine wl_v rfl (val_move (lk rfl)) ?_
  refine wl_v rfl (val_move (lk rfl)) ?_
  refine wl_call gd_none rfl ci_23 (args2 (lk rfl) (lk rfl)) (fun hG w1 hw => szBearerS_c _ _ _ _ w1 (by omega) (by omega)) ?_
  refine wl_v rfl (val_assign (lk rfl)) ?_
  refine wl_nil ?_
  refine px_then ?_
  refine wc_seq ?_
  refine wc_seq ?_
  refine wc_region ?_
  refine wl_v rfl (val_move (lk rfl)) ?_
  refine wl_v rfl (val_lss (lk rfl) lkc) ?_
  refine wl_nil ?_
  refine px_then ?_
  refine wc_cond (lk rfl) (fun hc1 => ?_) (fun hc1 => ?_)
  · refine wc_seq ?_
    refine wc_region ?_
    refine wl_v rfl (val_assign lkc) ?_
    refine wl_nil ?_
    refine px_then ?_
    refine wc_ret ?_
    refine px_then_ret ?_
    refine fin1 rfl (res_tmp rfl) (fun w1 hw => ?_)
    first | exact ⟨rfl, hw.drop rfl⟩ | (exfalso; revert hc1; simp; done) | (exfalso; revert hc1; simp; omega) | (exfalso; revert hc1; rw [Sub.eqb_refl]; simp; done) | (exfalso; revert hc1; rw [eqRows_refl eqB_refl]; simp; done) | (exfalso; revert hc1; rw [eqRows_refl eqB_refl]; simp; omega) | (exfalso; revert hc1; rw [eqB_refl]; simp; done) | (exfalso; have h9 := of_decide_eq_true hc1; omega)
  have hlr : rs.length ≤ 1048576 := by have h9 := of_decide_eq_false hc1; unfold szN at h9; split at h9 <;> omega
  refine wc_skip ?_
  refine px_then ?_
  refine wc_seq ?_
  refine wc_region ?_
  refine wl_v rfl (val_loadB (.head _) (lk rfl) ag_24) ?_
  refine wl_callx rfl ci_12 (args1 (lk rfl)) (fun w1 hw => toSub_c _ _ _ _ _ w1 (hs.hp hw rfl) (by omega)) (fun _ => rfl) ?_
  rintro ⟨gb21, gc21, gs21⟩ ⟨hgl21, hgc21⟩
  refine wl_v rfl (val_move (lk rfl)) ?_
  refine wl_callx rfl ci_25 (args1 (lk rfl)) (fun w1 hw => toBearerS_c _ _ _ _ _ w1 (hsr.hp hw rfl) (by omega)) (fun _ => rfl) ?_
  rintro ⟨gb23, gc23, gs23⟩ ⟨hgl23, hgc23⟩
  refine wl_call gd_none rfl ci_24 (args2 (lk rfl) (lk rfl)) (fun hG w1 hw => sWithin_c s rs _ _ 0 0 _ _ _ _ w1 (Sl.own hw (.head _)) (by omega)) ?_
  refine wl_v rfl (val_assign (lk rfl)) ?_
  refine wl_nil ?_
  refine px_then ?_
  refine wc_seq ?_
  refine wc_region ?_
  refine wl_v rfl (val_loadB (.tail _ (.tail _ (.head _))) (lk rfl) ag_24) ?_
  refine wl_callx rfl ci_12 (args1 (lk rfl)) (fun w1 hw => toSub_c _ _ _ _ _ w1 (hs.hp hw rfl) (by omega)) (fun _ => rfl) ?_
  rintro ⟨gb26, gc26, gs26⟩ ⟨hgl26, hgc26⟩
  refine wl_alloc zc_27 rfl fun b2 => ?_
  refine wl_storeB 0 rfl (lk rfl) (lk rfl) ag_27 rfl rfl ?_
  refine wl_nil ?_
  refine px_then ?_
  refine wc_seq ?_
  refine wc_region ?_
  refine wl_v rfl (val_move (lk rfl)) ?_
  refine wl_callx rfl ci_25 (args1 (lk rfl)) (fun w1 hw => toBearerS_c _ _ _ _ _ w1 (hsr.hp hw rfl) (by omega)) (fun _ => rfl) ?_
  rintro ⟨gb28, gc28, gs28⟩ ⟨hgl28, hgc28⟩
  refine wl_v rfl (val_assign (lk rfl)) ?_
  refine wl_nil ?_
  refine px_then ?_
  refine wc_seq ?_
  refine wc_region ?_
  refine wl_v rfl (val_loadB (.tail _ (.head _)) (lk rfl) ag_27) ?_
  refine wl_v rfl (val_move (lk rfl)) ?_
  refine wl_call gd_none rfl ci_26 (args2 (lk rfl) (lk rfl)) (fun hG w1 hw => Within_c s rs _ _ 0 0 _ _ _ _ w1 (Sl.own hw (.head _)) (by omega)) ?_
  refine wl_v rfl (val_assign (lk rfl)) ?_
  refine wl_nil ?_
  refine px_then ?_
  refine wc_seq ?_
  refine wc_seq ?_
  refine wc_region ?_
  refine wl_v rfl (val_move (lk rfl)) ?_
  refine wl_v rfl (val_move (lk rfl)) ?_
  refine wl_v rfl (val_neqB Try.underlying4 (lk rfl) (lk rfl)) ?_
  refine wl_nil ?_
  refine px_then ?_
  refine wc_cond (lk rfl) (fun hc2 => ?_) (fun hc2 => ?_)
  · refine wc_seq ?_
    refine wc_region ?_
    refine wl_v rfl (val_assign lkc) ?_
    refine wl_nil ?_
    refine px_then ?_
    refine wc_ret ?_
    refine px_then_ret ?_
    refine fin1 rfl (res_tmp rfl) (fun w1 hw => ?_)
    first | exact ⟨rfl, hw.drop rfl⟩ | (exfalso; revert hc2; simp; done) | (exfalso; revert hc2; simp; omega) | (exfalso; revert hc2; rw [Sub.eqb_refl]; simp; done) | (exfalso; revert hc2; rw [eqRows_refl eqB_refl]; simp; done) | (exfalso; revert hc2; rw [eqRows_refl eqB_refl]; simp; omega) | (exfalso; revert hc2; rw [eqB_refl]; simp; done) | (exfalso; have h9 := of_decide_eq_true hc2; omega)
  refine wc_skip ?_
  refine px_then ?_
  refine wc_seq ?_
  refine wc_seq ?_
  refine wc_region_a0 5 mo_ rfl ?_
  refine wa_take 0 rfl (by kernel_rfl) (by kernel_rfl) (by kernel_rfl) (by kernel_rfl) (fun _ h => h.dropN 0 rfl) gd_none rfl (val_loadB (.tail _ (.head _)) (lk rfl) ag_27) ?_
  refine wa_take 1 rfl (by kernel_rfl) (by kernel_rfl) (by kernel_rfl) (by kernel_rfl) (fun _ h => h.dropN 0 rfl) gd_none rfl (val_loadB (.tail _ (.tail _ (.tail _ (.tail _ (.tail _ (.head _)))))) (lk rfl) ag_24) ?_
  refine wa_only 2 (by kernel_rfl) rfl ?_
  refine wl_callx rfl ci_12 (args1 (lk rfl)) (fun w1 hw => toSub_c _ _ _ _ _ w1 (hs.hp hw rfl) (by omega)) (fun _ => rfl) ?_
  rintro ⟨gb37, gc37, gs37⟩ ⟨hgl37, hgc37⟩
  refine wl_nil (px_qn (fun _ h => h.dropN 1 rfl) ?_)
  refine wa_only 3 (by kernel_rfl) rfl ?_
  refine wl_call gd_none rfl ci_14 (args2 (lk rfl) (lk rfl)) (fun hG w1 hw => eqSub_c _ _ _ _ _ _ _ _ _ _ w1 (Sl.own hw (.tail _ (.tail _ (.tail _ (.head _))))) (Sl.own hw (.head _)) (by omega)) ?_
  refine wl_nil (px_qn (fun _ h => h.dropN 1 rfl) ?_)
  refine wa_take 4 rfl (by kernel_rfl) (by kernel_rfl) (by kernel_rfl) (by kernel_rfl) (fun _ h => h.dropN 1 rfl) gd_none rfl (val_not (lk rfl)) ?_
  refine wa_done (by kernel_rfl) ?_
  refine px_then ?_
  refine wc_cond (lk rfl) (fun hc3 => ?_) (fun hc3 => ?_)
  · refine wc_seq ?_
    refine wc_region ?_
    refine wl_v rfl (val_assign lkc) ?_
    refine wl_nil ?_
    refine px_then ?_
    refine wc_ret ?_
    refine px_then_ret ?_
    refine fin1 rfl (res_tmp rfl) (fun w1 hw => ?_)
    first | exact ⟨rfl, hw.drop rfl⟩ | (exfalso; revert hc3; simp; done) | (exfalso; revert hc3; simp; omega) | (exfalso; revert hc3; rw [Sub.eqb_refl]; simp; done) | (exfalso; revert hc3; rw [eqRows_refl eqB_refl]; simp; done) | (exfalso; revert hc3; rw [eqRows_refl eqB_refl]; simp; omega) | (exfalso; revert hc3; rw [eqB_refl]; simp; done) | (exfalso; have h9 := of_decide_eq_true hc3; omega)
  refine wc_skip ?_
  refine px_then ?_
  refine wc_seq ?_
  refine wc_seq ?_
  refine wc_region ?_
  refine wl_v rfl (val_move (lk rfl)) ?_
  refine wl_v rfl (val_move (lk rfl)) ?_
  refine wl_callx rfl ci_25 (args1 (lk rfl)) (fun w1 hw => toBearerS_c _ _ _ _ _ w1 (hsr.hp hw rfl) (by omega)) (fun _ => rfl) ?_
  rintro ⟨gb42, gc42, gs42⟩ ⟨hgl42, hgc42⟩
  refine wl_call gd_none rfl ci_27 (args2 (lk rfl) (lk rfl)) (fun hG w1 hw => eqBearerS_c _ _ _ _ _ _ _ _ _ _ w1 (Sl.own hw (.tail _ (.tail _ (.head _)))) (Sl.own hw (.head _)) (by omega)) ?_
  refine wl_v rfl (val_not (lk rfl)) ?_
  refine wl_nil ?_
  refine px_then ?_
  refine wc_cond (lk rfl) (fun hc4 => ?_) (fun hc4 => ?_)
  · refine wc_seq ?_
    refine wc_region ?_
    refine wl_v rfl (val_assign lkc) ?_
    refine wl_nil ?_
    refine px_then ?_
    refine wc_ret ?_
    refine px_then_ret ?_
    refine fin1 rfl (res_tmp rfl) (fun w1 hw => ?_)
    first | exact ⟨rfl, hw.drop rfl⟩ | (exfalso; revert hc4; simp; done) | (exfalso; revert hc4; simp; omega) | (exfalso; revert hc4; rw [Sub.eqb_refl]; simp; done) | (exfalso; revert hc4; rw [eqRows_refl eqB_refl]; simp; done) | (exfalso; revert hc4; rw [eqRows_refl eqB_refl]; simp; omega) | (exfalso; revert hc4; rw [eqB_refl]; simp; done) | (exfalso; have h9 := of_decide_eq_true hc4; omega)
  refine wc_skip ?_
  refine px_then ?_
  refine wc_seq ?_
  refine wc_region ?_
  refine wl_v rfl (val_assign lkc) ?_
  refine wl_nil ?_
  refine px_then ?_
  refine wc_ret ?_
  refine fin1 rfl (res_tmp rfl) (fun w1 hw => ?_)
  first | exact ⟨rfl, hw.drop rfl⟩ | (exfalso; revert hc4; simp; done) | (exfalso; revert hc4; simp; omega) | (exfalso; revert hc4; rw [Sub.eqb_refl]; simp; done) | (exfalso; revert hc4; rw [eqRows_refl eqB_refl]; simp; done) | (exfalso; revert hc4; rw [eqRows_refl eqB_refl]; simp; omega) | (exfalso; revert hc4; rw [eqB_refl]; simp; done) | (exfalso; have h9 := of_decide_eq_true hc4; omega)

end Go.Proofs.Ytlpiogbbplfliaa
