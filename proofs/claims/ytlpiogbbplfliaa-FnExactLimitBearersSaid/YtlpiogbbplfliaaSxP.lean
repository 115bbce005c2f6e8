/- The law on limited bearers: walked. -/
import Derived.Test.YtlpiogbbplfliaaSxO
namespace Go.Proofs.Ytlpiogbbplfliaa
open Go.RowKit

theorem markSub_c (s : Sub) (A : Option Addr) (b c k0 : Nat) (cs : List Value) (w : World) (hA : 0 < s.nets.length → A = some ⟨b, 0, none⟩) (hb : w.heap[b]? = some (.cells cs.toArray 3 (0, 0))) (hn : s.nets.length ≤ 1048600) (hk0 : k0 ≤ 268435456) (hcl : s.nets.length * 1 ≤ cs.length) :
    Calls Try.prog 30 #[s.val A c, .int .i64 (k0 : Nat)] w fun e w' => ∃ _ : Unit, True ∧ e = .returned (.int .i64 ((k0 + s.nets.length * 1 : Nat) : Int)) ∧ HP w [⟨b, false, 3, seqV k0 (s.nets.length * 1) ++ cs.drop (s.nets.length * 1)⟩] w' := by
  refine calls_entry [⟨b, false, 3, cs⟩] _ Try.func30 rfl Try.ntmps30 (HP.one hb) (env2 rfl) ?_
  refine wc_seq ?_
  refine wc_region ?_
  refine wl_box (lk rfl) rfl fun b1 => ?_
  refine wl_v rfl (val_assign lkc) ?_
  refine wl_nil ?_
  refine px_then ?_
  refine wc_seq ?_
  refine wc_region ?_
  refine wl_v rfl (val_field fo_27_3 (lk rfl)) ?_
  refine wl_v rfl (val_load1 t1_22 (lk rfl) (cell_own (.head _) fun _ => rfl)) ?_
  refine wl_v rfl (val_move (lk rfl)) ?_
  refine wl_callw 1 rfl ci_50 (args2 (lk rfl) (lk rfl)) rfl (fun w1 hw => markIntS_c _ _ _ _ k0 cs w1 hA (hw.own _ (.tail _ (.head _))) hn hk0 hcl) (fun _ => rfl) ?_
  rintro ⟨⟩ -
  refine wl_v rfl (val_assign (lk rfl)) ?_
  refine wl_nil ?_
  refine px_then ?_
  refine wc_seq ?_
  refine wc_region ?_
  refine wl_v rfl (val_move (lk rfl)) ?_
  refine wl_v rfl (val_assign (lk rfl)) ?_
  refine wl_nil ?_
  refine px_then ?_
  refine wc_ret ?_
  refine fin1 rfl (res_tmp rfl) (fun w1 hw => ?_)
  exact ⟨(), trivial, rfl, hw.mask [false, true] rfl⟩

theorem law_LimitBearers (s : Sub) (rs : List Bear) (A A2 : Option Addr) (b o c b2 o2 c2 : Nat) (w : World) (hs : Sl w A b o (flat encI s.nets)) (hm : s.nets.length ≤ 9223372036854775807) (hsr : Sl w A2 b2 o2 (flat encB rs)) (hmr : rs.length ≤ 9223372036854775807) :
    Calls Try.prog 8 #[s.val A c, .slice A2 rs.length c2] w fun e w' => e = .returned (.bool true) ∧ HP w [] w' := by
  refine calls_entry [] _ Try.func8 rfl Try.ntmps8 (HP.refl w) (env2 rfl) ?_
  refine wc_seq ?_
  refine wc_region ?_
  refine wl_box (lk rfl) rfl fun b1 => ?_
  refine wl_v rfl (val_assign lkc) ?_
  refine wl_nil ?_
  refine px_then ?_
  refine wc_seq ?_
  refine wc_region ?_
  refine wl_v rfl (val_assign lkc) ?_
  refine wl_nil ?_
  refine px_then ?_
  refine wc_seq ?_
  refine wc_region ?_
  refine wl_v rfl (val_loadB (.head _) (lk rfl) ag_24) ?_
  refine wl_v rfl (val_move (lk rfl)) ?_
  refine wl_call gd_none rfl ci_10 (args2 (lk rfl) (lk rfl)) (fun hG w1 hw => szSub_c s _ _ _ w1 (by omega) (by omega)) ?_
  refine wl_v rfl (val_assign (lk rfl)) ?_
  refine wl_nil ?_
  refine px_then ?_
  refine wc_seq ?_
  refine wc_seq ?_
  refine wc_region ?_
  refine wl_v rfl (val_move (lk rfl)) ?_
  refine wl_v rfl (val_lss (lk rfl) lkc) ?_
  refine wl_nil ?_
  refine px_then ?_
  refine wc_cond (lk rfl) (fun hc0 => ?_) (fun hc0 => ?_)
  · refine wc_seq ?_
    refine wc_region ?_
    refine wl_v rfl (val_assign lkc) ?_
    refine wl_nil ?_
    refine px_then ?_
    refine wc_ret ?_
    refine px_then_ret ?_
    refine fin1 rfl (res_tmp rfl) (fun w1 hw => ?_)
    first | exact ⟨rfl, hw.drop rfl⟩ | (exfalso; revert hc0; simp; done) | (exfalso; revert hc0; simp; omega) | (exfalso; revert hc0; rw [Sub.eqb_refl]; simp; done) | (exfalso; revert hc0; rw [eqRows_refl eqB_refl]; simp; done) | (exfalso; revert hc0; rw [eqRows_refl eqB_refl]; simp; omega) | (exfalso; revert hc0; rw [eqB_refl]; simp; done) | (exfalso; have h9 := of_decide_eq_true hc0; omega)
  have hl : s.nets.length ≤ 1048576 := by have h9 := of_decide_eq_false hc0; unfold szN at h9; split at h9 <;> omega
  have hz : 0 ≤ szN 1048576 s.nets.length ∧ szN 1048576 s.nets.length ≤ 1048576 := by have h9 := of_decide_eq_false hc0; unfold szN at h9 ⊢; split at h9 <;> rename_i hq <;> simp only [hq] <;> simp <;> omega
  refine wc_skip ?_
  refine px_then ?_
  refine wc_seq ?_
  refine wc_region ?_
  refine wl_v rfl (val_move (lk rfl)) ?_
  refine wl_v rfl (val_move (lk rfl)) ?_
  refine wl_call gd_none rfl ci_23 (args2 (lk rfl) (lk rfl)) (fun hG w1 hw => szBearerS_c _ _ _ _ w1 (by omega) (by omega)) ?_
  refine wl_v rfl (val_assign (lk rfl)) ?_
  refine wl_nil ?_
  refine px_then ?_
  refine wc_seq ?_
  refine wc_seq ?_
  refine wc_region ?_
  refine wl_v rfl (val_move (lk rfl)) ?_
  refine wl_v rfl (val_lss (lk rfl) lkc) ?_
  refine wl_nil ?_
  refine px_then ?_
  refine wc_cond (lk rfl) (fun hc1 => ?_) (fun hc1 => ?_)
  · refine wc_seq ?_
    refine wc_region ?_
    refine wl_v rfl (val_assign lkc) ?_
    refine wl_nil ?_
    refine px_then ?_
    refine wc_ret ?_
    refine px_then_ret ?_
    refine fin1 rfl (res_tmp rfl) (fun w1 hw => ?_)
    first | exact ⟨rfl, hw.drop rfl⟩ | (exfalso; revert hc1; simp; done) | (exfalso; revert hc1; simp; omega) | (exfalso; revert hc1; rw [Sub.eqb_refl]; simp; done) | (exfalso; revert hc1; rw [eqRows_refl eqB_refl]; simp; done) | (exfalso; revert hc1; rw [eqRows_refl eqB_refl]; simp; omega) | (exfalso; revert hc1; rw [eqB_refl]; simp; done) | (exfalso; have h9 := of_decide_eq_true hc1; omega)
  have hlr : rs.length ≤ 1048576 := by have h9 := of_decide_eq_false hc1; unfold szN at h9; split at h9 <;> omega
  have hln : (limS s rs rs.length).length = rs.length := limS_len s rs (Nat.le_refl _)
  refine wc_skip ?_
  refine px_then ?_
  refine wc_seq ?_
  refine wc_region ?_
  refine wl_v rfl (val_loadB (.head _) (lk rfl) ag_24) ?_
  refine wl_callx rfl ci_12 (args1 (lk rfl)) (fun w1 hw => toSub_c _ _ _ _ _ w1 (hs.hp hw rfl) (by omega)) (fun _ => rfl) ?_
  rintro ⟨gb25, gc25, gs25⟩ ⟨hgl25, hgc25⟩
  refine wl_v rfl (val_move (lk rfl)) ?_
  refine wl_callx rfl ci_25 (args1 (lk rfl)) (fun w1 hw => toBearerS_c _ _ _ _ _ w1 (hsr.hp hw rfl) (by omega)) (fun _ => rfl) ?_
  rintro ⟨gb27, gc27, gs27⟩ ⟨hgl27, hgc27⟩
  refine wl_callx rfl ci_28 (args2 (lk rfl) (lk rfl)) (fun w1 hw => sLims_c s rs _ _ 0 0 _ _ _ _ w1 (Sl.own hw (.head _)) (by omega)) (fun _ => rfl) ?_
  rintro ⟨gb28, gc28, gs28⟩ ⟨hgl28, hgc28⟩
  refine wl_v rfl (val_assign (lk rfl)) ?_
  refine wl_nil ?_
  refine px_then ?_
  refine wc_seq ?_
  refine wc_region ?_
  refine wl_v rfl (val_loadB (.tail _ (.tail _ (.tail _ (.head _)))) (lk rfl) ag_24) ?_
  refine wl_callx rfl ci_12 (args1 (lk rfl)) (fun w1 hw => toSub_c _ _ _ _ _ w1 (hs.hp hw rfl) (by omega)) (fun _ => rfl) ?_
  rintro ⟨gb30, gc30, gs30⟩ ⟨hgl30, hgc30⟩
  refine wl_alloc zc_27 rfl fun b2 => ?_
  refine wl_storeB 0 rfl (lk rfl) (lk rfl) ag_27 rfl rfl ?_
  refine wl_nil ?_
  refine px_then ?_
  refine wc_seq ?_
  refine wc_region ?_
  refine wl_v rfl (val_move (lk rfl)) ?_
  refine wl_callx rfl ci_25 (args1 (lk rfl)) (fun w1 hw => toBearerS_c _ _ _ _ _ w1 (hsr.hp hw rfl) (by omega)) (fun _ => rfl) ?_
  rintro ⟨gb32, gc32, gs32⟩ ⟨hgl32, hgc32⟩
  refine wl_v rfl (val_assign (lk rfl)) ?_
  refine wl_nil ?_
  refine px_then ?_
  refine wc_seq ?_
  refine wc_region ?_
  refine wl_v rfl (val_loadB (.tail _ (.head _)) (lk rfl) ag_27) ?_
  refine wl_v rfl (val_move (lk rfl)) ?_
  refine wl_callx rfl ci_29 (args2 (lk rfl) (lk rfl)) (fun w1 hw => Lims_c s rs _ _ 0 0 _ _ _ _ w1 (Sl.own hw (.head _)) (by omega)) (fun _ => rfl) ?_
  rintro ⟨gb35, gc35, gs35⟩ ⟨hgl35, hgc35⟩
  refine wl_v rfl (val_assign (lk rfl)) ?_
  refine wl_nil ?_
  refine px_then ?_
  refine wc_seq ?_
  refine wc_seq ?_
  refine wc_region ?_
  refine wl_v rfl (val_move (lk rfl)) ?_
  refine wl_v rfl (val_move (lk rfl)) ?_
  refine wl_call gd_none rfl ci_27 (args2 (lk rfl) (lk rfl)) (fun hG w1 hw => eqBearerS_c (limS s rs rs.length) (limS s rs rs.length) _ _ _ _ _ _ _ _ w1 (Sl.own hw (.head _)) (Sl.own hw (.tail _ (.tail _ (.tail _ (.tail _ (.head _)))))) (by omega)) ?_
  refine wl_v rfl (val_not (lk rfl)) ?_
  refine wl_nil ?_
  refine px_then ?_
  refine wc_cond (lk rfl) (fun hc2 => ?_) (fun hc2 => ?_)
  · refine wc_seq ?_
    refine wc_region ?_
    refine wl_v rfl (val_assign lkc) ?_
    refine wl_nil ?_
    refine px_then ?_
    refine wc_ret ?_
    refine px_then_ret ?_
    refine fin1 rfl (res_tmp rfl) (fun w1 hw => ?_)
    first | exact ⟨rfl, hw.drop rfl⟩ | (exfalso; revert hc2; simp; done) | (exfalso; revert hc2; simp; omega) | (exfalso; revert hc2; rw [Sub.eqb_refl]; simp; done) | (exfalso; revert hc2; rw [eqRows_refl eqB_refl]; simp; done) | (exfalso; revert hc2; rw [eqRows_refl eqB_refl]; simp; omega) | (exfalso; revert hc2; rw [eqB_refl]; simp; done) | (exfalso; have h9 := of_decide_eq_true hc2; omega)
  refine wc_skip ?_
  refine px_then ?_
  refine wc_seq ?_
  refine wc_seq ?_
  refine wc_region_a0 5 mo_ rfl ?_
  refine wa_take 0 rfl (by kernel_rfl) (by kernel_rfl) (by kernel_rfl) (by kernel_rfl) (fun _ h => h.dropN 0 rfl) gd_none rfl (val_loadB (.tail _ (.tail _ (.head _))) (lk rfl) ag_27) ?_
  refine wa_take 1 rfl (by kernel_rfl) (by kernel_rfl) (by kernel_rfl) (by kernel_rfl) (fun _ h => h.dropN 0 rfl) gd_none rfl (val_loadB (.tail _ (.tail _ (.tail _ (.tail _ (.tail _ (.tail _ (.tail _ (.head _)))))))) (lk rfl) ag_24) ?_
  refine wa_only 2 (by kernel_rfl) rfl ?_
  refine wl_callx rfl ci_12 (args1 (lk rfl)) (fun w1 hw => toSub_c _ _ _ _ _ w1 (hs.hp hw rfl) (by omega)) (fun _ => rfl) ?_
  rintro ⟨gb42, gc42, gs42⟩ ⟨hgl42, hgc42⟩
  refine wl_nil (px_qn (fun _ h => h.dropN 1 rfl) ?_)
  refine wa_only 3 (by kernel_rfl) rfl ?_
  refine wl_call gd_none rfl ci_14 (args2 (lk rfl) (lk rfl)) (fun hG w1 hw => eqSub_c _ _ _ _ _ _ _ _ _ _ w1 (Sl.own hw (.tail _ (.tail _ (.tail _ (.tail _ (.head _)))))) (Sl.own hw (.head _)) (by omega)) ?_
  refine wl_nil (px_qn (fun _ h => h.dropN 1 rfl) ?_)
  refine wa_take 4 rfl (by kernel_rfl) (by kernel_rfl) (by kernel_rfl) (by kernel_rfl) (fun _ h => h.dropN 1 rfl) gd_none rfl (val_not (lk rfl)) ?_
  refine wa_done (by kernel_rfl) ?_
  refine px_then ?_
  refine wc_cond (lk rfl) (fun hc3 => ?_) (fun hc3 => ?_)
  · refine wc_seq ?_
    refine wc_region ?_
    refine wl_v rfl (val_assign lkc) ?_
    refine wl_nil ?_
    refine px_then ?_
    refine wc_ret ?_
    refine px_then_ret ?_
    refine fin1 rfl (res_tmp rfl) (fun w1 hw => ?_)
    first | exact ⟨rfl, hw.drop rfl⟩ | (exfalso; revert hc3; simp; done) | (exfalso; revert hc3; simp; omega) | (exfalso; revert hc3; rw [Sub.eqb_refl]; simp; done) | (exfalso; revert hc3; rw [eqRows_refl eqB_refl]; simp; done) | (exfalso; revert hc3; rw [eqRows_refl eqB_refl]; simp; omega) | (exfalso; revert hc3; rw [eqB_refl]; simp; done) | (exfalso; have h9 := of_decide_eq_true hc3; omega)
  refine wc_skip ?_
  refine px_then ?_
  refine wc_seq ?_
  refine wc_seq ?_
  refine wc_region ?_
  refine wl_v rfl (val_move (lk rfl)) ?_
  refine wl_v rfl (val_move (lk rfl)) ?_
  refine wl_callx rfl ci_25 (args1 (lk rfl)) (fun w1 hw => toBearerS_c _ _ _ _ _ w1 (hsr.hp hw rfl) (by omega)) (fun _ => rfl) ?_
  rintro ⟨gb47, gc47, gs47⟩ ⟨hgl47, hgc47⟩
  refine wl_call gd_none rfl ci_27 (args2 (lk rfl) (lk rfl)) (fun hG w1 hw => eqBearerS_c (rs) (rs) _ _ _ _ _ _ _ _ w1 (Sl.own hw (.tail _ (.tail _ (.tail _ (.head _))))) (Sl.own hw (.head _)) (by omega)) ?_
  refine wl_v rfl (val_not (lk rfl)) ?_
  refine wl_nil ?_
  refine px_then ?_
  refine wc_cond (lk rfl) (fun hc4 => ?_) (fun hc4 => ?_)
  · refine wc_seq ?_
    refine wc_region ?_
    refine wl_v rfl (val_assign lkc) ?_
    refine wl_nil ?_
    refine px_then ?_
    refine wc_ret ?_
    refine px_then_ret ?_
    refine fin1 rfl (res_tmp rfl) (fun w1 hw => ?_)
    first | exact ⟨rfl, hw.drop rfl⟩ | (exfalso; revert hc4; simp; done) | (exfalso; revert hc4; simp; omega) | (exfalso; revert hc4; rw [Sub.eqb_refl]; simp; done) | (exfalso; revert hc4; rw [eqRows_refl eqB_refl]; simp; done) | (exfalso; revert hc4; rw [eqRows_refl eqB_refl]; simp; omega) | (exfalso; revert hc4; rw [eqB_refl]; simp; done) | (exfalso; have h9 := of_decide_eq_true hc4; omega)
  refine wc_skip ?_
  refine px_then ?_
  refine wc_seq ?_
  refine wc_region ?_
  refine wl_v rfl (val_assign lkc) ?_
  refine wl_nil ?_
  refine px_then ?_
  refine wc_seq ?_
  refine wc_region ?_
  refine wl_v rfl (val_loadB (.tail _ (.tail _ (.tail _ (.tail _ (.head _))))) (lk rfl) ag_27) ?_
  refine wl_v rfl (val_move (lk rfl)) ?_
  refine wl_callw 5 rfl ci_30 (args2 (lk rfl) (lk rfl)) rfl (fun w1 hw => markSub_c s _ _ _ 1 _ w1 (fun _ => rfl) (hw.own _ (.tail _ (.tail _ (.tail _ (.tail _ (.tail _ (.head _))))))) (by omega) (by decide) (by rw [List.length_append, flat_len encI_len]; omega)) (fun _ => rfl) ?_
  rintro ⟨⟩ -
  refine wl_v rfl (val_assign (lk rfl)) ?_
  refine wl_nil ?_
  refine px_then ?_
  refine wc_seq ?_
  refine wc_region ?_
  refine wl_v rfl (val_move (lk rfl)) ?_
  refine wl_v rfl (val_move (lk rfl)) ?_
  refine wl_callw 3 rfl ci_31 (args2 (lk rfl) (lk rfl)) rfl (fun w1 hw => markBearerS_c _ _ _ _ (1 + s.nets.length * 1) _ w1 (fun _ => rfl) (hw.own _ (.tail _ (.tail _ (.tail _ (.head _))))) (by omega) (by omega) (by rw [List.length_append, flat_len encB_len]; omega)) (fun _ => rfl) ?_
  rintro ⟨⟩ -
  refine wl_v rfl (val_assign (lk rfl)) ?_
  refine wl_nil ?_
  refine px_then ?_
  refine wc_seq ?_
  refine wc_seq ?_
  refine wc_region ?_
  refine wl_v rfl (val_move (lk rfl)) ?_
  refine wl_v rfl (val_lss (lk rfl) lkc) ?_
  refine wl_v rfl (val_move (lk rfl)) ?_
  refine wl_val (gd_f rfl rfl rfl) rfl (val_move (lk rfl)) ?_
  refine wl_val (gd_f rfl rfl rfl) rfl (val_move (lk rfl)) ?_
  refine wl_call (gd_f rfl rfl rfl) rfl ci_27 (args2 (lkg rfl) (lkg rfl)) (fun hG w1 hw => eqBearerS_c (limS s rs rs.length) (limS s rs rs.length) _ _ _ _ _ _ _ _ w1 (Sl.own hw (.tail _ (.tail _ (.head _)))) (Sl.own hw (.tail _ (.tail _ (.tail _ (.tail _ (.tail _ (.tail _ (.head _)))))))) (by omega)) ?_
  refine wl_val (gd_f rfl rfl rfl) rfl (val_not (lkg rfl)) ?_
  refine wl_v rfl (val_or (lk rfl) (lkg rfl)) ?_
  refine wl_nil ?_
  refine px_then ?_
  refine wc_cond (lk rfl) (fun hc5 => ?_) (fun hc5 => ?_)
  · refine wc_seq ?_
    refine wc_region ?_
    refine wl_v rfl (val_assign lkc) ?_
    refine wl_nil ?_
    refine px_then ?_
    refine wc_ret ?_
    refine px_then_ret ?_
    refine fin1 rfl (res_tmp rfl) (fun w1 hw => ?_)
    first | exact ⟨rfl, hw.drop rfl⟩ | (exfalso; revert hc5; simp; done) | (exfalso; revert hc5; simp; omega) | (exfalso; revert hc5; rw [Sub.eqb_refl]; simp; done) | (exfalso; revert hc5; rw [eqRows_refl eqB_refl]; simp; done) | (exfalso; revert hc5; rw [eqRows_refl eqB_refl]; simp; omega) | (exfalso; revert hc5; rw [eqB_refl]; simp; done) | (exfalso; have h9 := of_decide_eq_true hc5; omega)
  refine wc_skip ?_
  refine px_then ?_
  refine wc_seq ?_
  refine wc_region ?_
  refine wl_v rfl (val_assign lkc) ?_
  refine wl_nil ?_
  refine px_then ?_
  refine wc_seq ?_
  refine wc_region ?_
  refine wl_v rfl (val_move (lk rfl)) ?_
  refine wl_v rfl (val_move (lk rfl)) ?_
  refine wl_callw 2 rfl ci_31 (args2 (lk rfl) (lk rfl)) rfl (fun w1 hw => markBearerS_c _ _ _ _ (1) _ w1 (fun _ => rfl) (hw.own _ (.tail _ (.tail _ (.head _)))) (by omega) (by omega) (by rw [List.length_append, flat_len encB_len]; omega)) (fun _ => rfl) ?_
  rintro ⟨⟩ -
  refine wl_v rfl (val_assign (lk rfl)) ?_
  refine wl_nil ?_
  refine px_then ?_
  refine wc_seq ?_
  refine wc_region ?_
  refine wl_v rfl (val_assign lkc) ?_
  refine wl_nil ?_
  refine px_then ?_
  refine wc_seq ?_
  refine wc_region ?_
  refine wl_v rfl (val_move (lk rfl)) ?_
  refine wl_v rfl (val_move (lk rfl)) ?_
  refine wl_call gd_none rfl ci_32 (args2 (lk rfl) (lk rfl)) (fun hG w1 hw => heldBearerS_c _ _ 0 _ _ 1 w1 (Sl.own hw (.tail _ (.tail _ (.head _)))) (by omega) (by decide)) ?_
  refine wl_v rfl (val_assign (lk rfl)) ?_
  refine wl_nil ?_
  refine px_then ?_
  refine wc_seq ?_
  refine wc_seq ?_
  refine wc_region ?_
  refine wl_v rfl (val_move (lk rfl)) ?_
  refine wl_v rfl (val_lss (lk rfl) lkc) ?_
  refine wl_nil ?_
  refine px_then ?_
  refine wc_cond (lk rfl) (fun hc6 => ?_) (fun hc6 => ?_)
  · refine wc_seq ?_
    refine wc_region ?_
    refine wl_v rfl (val_assign lkc) ?_
    refine wl_nil ?_
    refine px_then ?_
    refine wc_ret ?_
    refine px_then_ret ?_
    refine fin1 rfl (res_tmp rfl) (fun w1 hw => ?_)
    first | exact ⟨rfl, hw.drop rfl⟩ | (exfalso; revert hc6; simp; done) | (exfalso; revert hc6; simp; omega) | (exfalso; revert hc6; rw [Sub.eqb_refl]; simp; done) | (exfalso; revert hc6; rw [eqRows_refl eqB_refl]; simp; done) | (exfalso; revert hc6; rw [eqRows_refl eqB_refl]; simp; omega) | (exfalso; revert hc6; rw [eqB_refl]; simp; done) | (exfalso; have h9 := of_decide_eq_true hc6; omega)
  refine wc_skip ?_
  refine px_then ?_
  refine wc_seq ?_
  refine wc_seq ?_
  refine wc_region ?_
  refine wl_v rfl (val_move (lk rfl)) ?_
  refine wl_v rfl (val_move (lk rfl)) ?_
  refine wl_v rfl (val_neq (lk rfl) (lk rfl)) ?_
  refine wl_nil ?_
  refine px_then ?_
  refine wc_cond (lk rfl) (fun hc7 => ?_) (fun hc7 => ?_)
  · refine wc_seq ?_
    refine wc_region ?_
    refine wl_v rfl (val_assign lkc) ?_
    refine wl_nil ?_
    refine px_then ?_
    refine wc_ret ?_
    refine px_then_ret ?_
    refine fin1 rfl (res_tmp rfl) (fun w1 hw => ?_)
    first | exact ⟨rfl, hw.drop rfl⟩ | (exfalso; revert hc7; simp; done) | (exfalso; revert hc7; simp; omega) | (exfalso; revert hc7; rw [Sub.eqb_refl]; simp; done) | (exfalso; revert hc7; rw [eqRows_refl eqB_refl]; simp; done) | (exfalso; revert hc7; rw [eqRows_refl eqB_refl]; simp; omega) | (exfalso; revert hc7; rw [eqB_refl]; simp; done) | (exfalso; have h9 := of_decide_eq_true hc7; omega)
  refine wc_skip ?_
  refine px_then ?_
  refine wc_seq ?_
  refine wc_region ?_
  refine wl_v rfl (val_loadB (.tail _ (.tail _ (.tail _ (.tail _ (.tail _ (.tail _ (.tail _ (.tail _ (.tail _ (.head _)))))))))) (lk rfl) ag_24) ?_
  refine wl_callx rfl ci_12 (args1 (lk rfl)) (fun w1 hw => toSub_c _ _ _ _ _ w1 (hs.hp hw rfl) (by omega)) (fun _ => rfl) ?_
  rintro ⟨gb76, gc76, gs76⟩ ⟨hgl76, hgc76⟩
  refine wl_v rfl (val_move (lk rfl)) ?_
  refine wl_callx rfl ci_25 (args1 (lk rfl)) (fun w1 hw => toBearerS_c _ _ _ _ _ w1 (hsr.hp hw rfl) (by omega)) (fun _ => rfl) ?_
  rintro ⟨gb78, gc78, gs78⟩ ⟨hgl78, hgc78⟩
  refine wl_callx rfl ci_29 (args2 (lk rfl) (lk rfl)) (fun w1 hw => Lims_c s rs _ _ 0 0 _ _ _ _ w1 (Sl.own hw (.head _)) (by omega)) (fun _ => rfl) ?_
  rintro ⟨gb79, gc79, gs79⟩ ⟨hgl79, hgc79⟩
  refine wl_v rfl (val_assign (lk rfl)) ?_
  refine wl_nil ?_
  refine px_then ?_
  refine wc_seq ?_
  refine wc_seq ?_
  refine wc_region ?_
  refine wl_v rfl (val_move (lk rfl)) ?_
  refine wl_v rfl (val_move (lk rfl)) ?_
  refine wl_call gd_none rfl ci_27 (args2 (lk rfl) (lk rfl)) (fun hG w1 hw => eqBearerS_c (limS s rs rs.length) (limS s rs rs.length) _ _ _ _ _ _ _ _ w1 (Sl.own hw (.head _)) (Sl.own hw (.tail _ (.tail _ (.tail _ (.tail _ (.tail _ (.tail _ (.tail _ (.tail _ (.tail _ (.head _))))))))))) (by omega)) ?_
  refine wl_v rfl (val_not (lk rfl)) ?_
  refine wl_nil ?_
  refine px_then ?_
  refine wc_cond (lk rfl) (fun hc8 => ?_) (fun hc8 => ?_)
  · refine wc_seq ?_
    refine wc_region ?_
    refine wl_v rfl (val_assign lkc) ?_
    refine wl_nil ?_
    refine px_then ?_
    refine wc_ret ?_
    refine px_then_ret ?_
    refine fin1 rfl (res_tmp rfl) (fun w1 hw => ?_)
    first | exact ⟨rfl, hw.drop rfl⟩ | (exfalso; revert hc8; simp; done) | (exfalso; revert hc8; simp; omega) | (exfalso; revert hc8; rw [Sub.eqb_refl]; simp; done) | (exfalso; revert hc8; rw [eqRows_refl eqB_refl]; simp; done) | (exfalso; revert hc8; rw [eqRows_refl eqB_refl]; simp; omega) | (exfalso; revert hc8; rw [eqB_refl]; simp; done) | (exfalso; have h9 := of_decide_eq_true hc8; omega)
  refine wc_skip ?_
  refine px_then ?_
  refine wc_seq ?_
  refine wc_region ?_
  refine wl_v rfl (val_assign lkc) ?_
  refine wl_nil ?_
  refine px_then ?_
  refine wc_seq ?_
  refine wc_region ?_
  refine wl_v rfl (val_move (lk rfl)) ?_
  refine wl_v rfl (val_move (lk rfl)) ?_
  refine wl_call gd_none rfl ci_32 (args2 (lk rfl) (lk rfl)) (fun hG w1 hw => heldBearerS_c _ _ 0 _ _ 1 w1 (Sl.own hw (.tail _ (.tail _ (.tail _ (.tail _ (.tail _ (.head _))))))) (by omega) (by decide)) ?_
  refine wl_v rfl (val_assign (lk rfl)) ?_
  refine wl_nil ?_
  refine px_then ?_
  refine wc_seq ?_
  refine wc_seq ?_
  refine wc_region ?_
  refine wl_v rfl (val_move (lk rfl)) ?_
  refine wl_v rfl (val_lss (lk rfl) lkc) ?_
  refine wl_nil ?_
  refine px_then ?_
  refine wc_cond (lk rfl) (fun hc9 => ?_) (fun hc9 => ?_)
  · refine wc_seq ?_
    refine wc_region ?_
    refine wl_v rfl (val_assign lkc) ?_
    refine wl_nil ?_
    refine px_then ?_
    refine wc_ret ?_
    refine px_then_ret ?_
    refine fin1 rfl (res_tmp rfl) (fun w1 hw => ?_)
    first | exact ⟨rfl, hw.drop rfl⟩ | (exfalso; revert hc9; simp; done) | (exfalso; revert hc9; simp; omega) | (exfalso; revert hc9; rw [Sub.eqb_refl]; simp; done) | (exfalso; revert hc9; rw [eqRows_refl eqB_refl]; simp; done) | (exfalso; revert hc9; rw [eqRows_refl eqB_refl]; simp; omega) | (exfalso; revert hc9; rw [eqB_refl]; simp; done) | (exfalso; have h9 := of_decide_eq_true hc9; omega)
  refine wc_skip ?_
  refine px_then ?_
  refine wc_seq ?_
  refine wc_seq ?_
  refine wc_region ?_
  refine wl_v rfl (val_move (lk rfl)) ?_
  refine wl_v rfl (val_move (lk rfl)) ?_
  refine wl_v rfl (val_neq (lk rfl) (lk rfl)) ?_
  refine wl_nil ?_
  refine px_then ?_
  refine wc_cond (lk rfl) (fun hc10 => ?_) (fun hc10 => ?_)
  · refine wc_seq ?_
    refine wc_region ?_
    refine wl_v rfl (val_assign lkc) ?_
    refine wl_nil ?_
    refine px_then ?_
    refine wc_ret ?_
    refine px_then_ret ?_
    refine fin1 rfl (res_tmp rfl) (fun w1 hw => ?_)
    first | exact ⟨rfl, hw.drop rfl⟩ | (exfalso; revert hc10; simp; done) | (exfalso; revert hc10; simp; omega) | (exfalso; revert hc10; rw [Sub.eqb_refl]; simp; done) | (exfalso; revert hc10; rw [eqRows_refl eqB_refl]; simp; done) | (exfalso; revert hc10; rw [eqRows_refl eqB_refl]; simp; omega) | (exfalso; revert hc10; rw [eqB_refl]; simp; done) | (exfalso; have h9 := of_decide_eq_true hc10; omega)
  refine wc_skip ?_
  refine px_then ?_
  refine wc_seq ?_
  refine wc_region ?_
  refine wl_v rfl (val_assign lkc) ?_
  refine wl_nil ?_
  refine px_then ?_
  refine wc_ret ?_
  refine fin1 rfl (res_tmp rfl) (fun w1 hw => ?_)
  first | exact ⟨rfl, hw.drop rfl⟩ | (exfalso; revert hc10; simp; done) | (exfalso; revert hc10; simp; omega) | (exfalso; revert hc10; rw [Sub.eqb_refl]; simp; done) | (exfalso; revert hc10; rw [eqRows_refl eqB_refl]; simp; done) | (exfalso; revert hc10; rw [eqRows_refl eqB_refl]; simp; omega) | (exfalso; revert hc10; rw [eqB_refl]; simp; done) | (exfalso; have h9 := of_decide_eq_true hc10; omega)

end Go.Proofs.Ytlpiogbbplfliaa
