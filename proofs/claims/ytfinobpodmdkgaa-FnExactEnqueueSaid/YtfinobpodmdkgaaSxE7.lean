/- Paging buffers: the law on putting in, walked. -/
import Derived.Test.YtfinobpodmdkgaaSxQ
namespace Go.Proofs.Ytfinobpodmdkgaa
open Go.RowKit


theorem eqPE (ps : PS) : eqRows eqB ps ps = true := eqRows_refl eqB_refl ps
theorem eq8E (xs : List Int) : eqRows eq8 xs xs = true := eqRows_refl eq8_refl xs

theorem law_Enqueue (q dr : Int) (ps : PS) (A : Option Addr) (b o c : Nat) (xs : List Int) (A2 : Option Addr) (b2 o2 c2 : Nat) (w : World) (hA : Pay w A b o ps) (hcap : ps.length ≤ c) (hc63 : c ≤ 9223372036854775807) (hcaps : ∀ k, k < ps.length → (nth [] ps k).length ≤ 9223372036854775807) (hs2 : Sl w A2 b2 o2 (bv xs)) :
    Calls Try.prog 8 #[.agg #[.int .i64 q, .slice A ps.length c, .int .i64 dr], .slice A2 xs.length c2] w fun e w' => e = .returned (.bool true) ∧ HP w [] w' := by
  refine calls_entry [] _ Try.func8 rfl Try.ntmps8 (HP.refl w) (env2 rfl) ?_
  refine wc_seq ?_
  refine wc_region ?_
  refine wl_box (lk rfl) rfl fun b1 => ?_
  refine wl_v rfl (val_assign lkc) ?_
  refine wl_nil ?_
  refine px_then ?_
  refine wc_seq ?_
  refine wc_seq ?_
  refine wc_region ?_
  refine wl_v rfl (val_move (lk rfl)) ?_
  refine wl_v rfl (val_len es_42 (lk rfl)) ?_
  refine wl_v rfl (val_gtr (lk rfl) lkc) ?_
  refine wl_nil ?_
  refine px_then ?_
  refine wc_cond (lk rfl) (fun hc0 => ?_) (fun hc0 => ?_)
  · refine wc_seq ?_
    refine wc_region ?_
    refine wl_v rfl (val_assign lkc) ?_
    refine wl_nil ?_
    refine px_then ?_
    refine wc_ret ?_
    refine px_then_ret ?_
    refine fin1 rfl (res_tmp rfl) (fun w1 hw => ?_)
    exact ⟨rfl, (hw.drop rfl)⟩
  refine wc_skip ?_
  refine px_then ?_
  refine wc_seq ?_
  refine wc_region ?_
  refine wl_v rfl (val_assign lkc) ?_
  refine wl_nil ?_
  refine px_then ?_
  refine wc_seq ?_
  refine wc_region ?_
  refine wl_v rfl (val_loadB (.head _) (lk rfl) ag_24) ?_
  refine wl_v rfl (val_move (lk rfl)) ?_
  refine wl_call gd_none rfl ci_9 (args2 (lk rfl) (lk rfl)) (fun hG w1 hw => szBuf_c _ _ ps _ _ _ _ 1048576 w1 (hA.hpT hw (m := 1) (Ds := []) rfl rfl) (by omega) hcaps (by decide)) ?_
  refine wl_v rfl (val_assign (lk rfl)) ?_
  refine wl_nil ?_
  refine px_then ?_
  refine wc_seq ?_
  refine wc_seq ?_
  refine wc_region ?_
  refine wl_v rfl (val_move (lk rfl)) ?_
  refine wl_v rfl (val_lss (lk rfl) lkc) ?_
  refine wl_nil ?_
  refine px_then ?_
  refine wc_cond (lk rfl) (fun hc1 => ?_) (fun hc1 => ?_)
  · refine wc_seq ?_
    refine wc_region ?_
    refine wl_v rfl (val_assign lkc) ?_
    refine wl_nil ?_
    refine px_then ?_
    refine wc_ret ?_
    refine px_then_ret ?_
    refine fin1 rfl (res_tmp rfl) (fun w1 hw => ?_)
    exact ⟨rfl, (hw.drop rfl)⟩
  have hb := szP_ok (of_decide_eq_false hc1)
  have hxl : xs.length ≤ 1048576 := by have := of_decide_eq_false hc0; omega
  have het := enq_tot q dr ps xs
  refine wc_skip ?_
  refine px_then ?_
  refine wc_seq ?_
  refine wc_region ?_
  refine wl_v rfl (val_loadB (.head _) (lk rfl) ag_24) ?_
  refine wl_callU (Ds := []) 1 rfl ci_11 (args1 (lk rfl)) rfl (fun w1 hw => toBuf_c _ _ _ _ _ _ _ w1 (hA.hpT hw (m := 1) (Ds := []) rfl rfl) (by omega)) (fun _ => rfl) ?_
  rintro ⟨g23, c23, ds23, sp23⟩ ⟨hp23, hl23, hc23⟩
  simp only at hp23 hl23 hc23
  have hq23 := plcap hp23 hl23
  refine wl_v rfl (val_move (lk rfl)) ?_
  refine wl_callx rfl ci_32 (args1 (lk rfl)) (fun w1 hw => toByteS_c _ _ _ _ _ w1 (hs2.hp hw (drop_new (m := 2) (Ds := [ds23]) rfl rfl)) (by omega)) (fun _ => rfl) ?_
  rintro gb25 -
  refine wl_callU (Ds := [ds23]) 3 rfl ci_31 (args2 (lk rfl) (lk rfl)) rfl (fun w1 hw => sEnq_c _ _ _ _ _ _ _ _ _ _ _ _ w1 (Pay.own hw (.tail _ (.head _)) rfl (m := 3) (Ds := [ds23]) rfl (j := 0) rfl hp23) (by omega) (Sl.own' hw (.head _)) (by omega)) (fun _ => rfl) ?_
  rintro ⟨g26, c26, ds26, sp26⟩ ⟨hp26, hl26, hc26⟩
  simp only at hp26 hl26 hc26
  have hq26 := plcap hp26 hl26
  refine wl_alloc zc_29 rfl fun b2 => ?_
  refine wl_storeB 0 rfl (lk rfl) (lk rfl) ag_29 rfl rfl ?_
  refine wl_nil ?_
  refine px_then ?_
  refine wc_seq ?_
  refine wc_region ?_
  refine wl_v rfl (val_loadB (.tail _ (.tail _ (.tail _ (.tail _ (.head _))))) (lk rfl) ag_24) ?_
  refine wl_callU (Ds := [ds26, ds23]) 5 rfl ci_11 (args1 (lk rfl)) rfl (fun w1 hw => toBuf_c _ _ _ _ _ _ _ w1 (hA.hpT hw (m := 5) (Ds := [ds26, ds23]) rfl rfl) (by omega)) (fun _ => rfl) ?_
  rintro ⟨g28, c28, ds28, sp28⟩ ⟨hp28, hl28, hc28⟩
  simp only at hp28 hl28 hc28
  have hq28 := plcap hp28 hl28
  refine wl_alloc zc_29 rfl fun b3 => ?_
  refine wl_storeB 0 rfl (lk rfl) (lk rfl) ag_29 rfl rfl ?_
  refine wl_nil ?_
  refine px_then ?_
  refine wc_seq ?_
  refine wc_region ?_
  refine wl_v rfl (val_move (lk rfl)) ?_
  refine wl_callx rfl ci_32 (args1 (lk rfl)) (fun w1 hw => toByteS_c _ _ _ _ _ w1 (hs2.hp hw (drop_new (m := 7) (Ds := [ds28, ds26, ds23]) rfl rfl)) (by omega)) (fun _ => rfl) ?_
  rintro gb30 -
  refine wl_v rfl (val_assign (lk rfl)) ?_
  refine wl_nil ?_
  refine px_then ?_
  refine wc_seq ?_
  refine wc_region ?_
  refine wl_v rfl (val_loadB (.tail _ (.head _)) (lk rfl) ag_29) ?_
  refine wl_v rfl (val_move (lk rfl)) ?_
  refine wl_callU (Ds := [ds28, ds26, ds23]) 8 rfl ci_27 (args2 (lk rfl) (lk rfl)) rfl (fun w1 hw => Enq_c _ _ _ _ _ _ _ _ _ _ _ _ w1 (Pay.own hw (.tail _ (.tail _ (.head _))) rfl (m := 8) (Ds := [ds28, ds26, ds23]) rfl (j := 0) rfl hp28) (by omega) (Sl.own' hw (.head _)) (by omega)) (fun _ => rfl) ?_
  rintro ⟨g33, c33, ds33, sp33⟩ ⟨hp33, hl33, hc33⟩
  simp only at hp33 hl33 hc33
  have hq33 := plcap hp33 hl33
  refine wl_alloc zc_29 rfl fun b4 => ?_
  refine wl_storeB 0 rfl (lk rfl) (lk rfl) ag_29 rfl rfl ?_
  refine wl_nil ?_
  refine px_then ?_
  refine wc_seq ?_
  refine wc_seq ?_
  refine wc_region ?_
  refine wl_v rfl (val_loadB (.head _) (lk rfl) ag_29) ?_
  refine wl_v rfl (val_loadB (.tail _ (.tail _ (.tail _ (.tail _ (.tail _ (.head _)))))) (lk rfl) ag_29) ?_
  refine wl_call gd_none rfl ci_13 (args2 (lk rfl) (lk rfl)) (fun hG w1 hw => eqBuf_c _ _ _ _ _ _ _ _ _ _ _ _ _ _ w1 (Pay.own hw (.tail _ (.head _)) rfl (m := 10) (Ds := [ds33, ds28, ds26, ds23]) rfl (j := 0) rfl hp33) (Pay.own hw (.tail _ (.tail _ (.tail _ (.tail _ (.tail _ (.tail _ (.head _))))))) rfl (m := 10) (Ds := [ds33, ds28, ds26, ds23]) rfl (j := 2) rfl hp26) (by omega)) ?_
  refine wl_v rfl (val_not (lk rfl)) ?_
  refine wl_nil ?_
  refine px_then ?_
  refine wc_cond (lk rfl) (fun hc2 => ?_) (fun hc2 => ?_)
  · (exfalso; have h9 := hc2; first | (simp [eqPE, eq8E] at h9; done) | (simp [eqPE, eq8E] at h9; omega))
  refine wc_skip ?_
  refine px_then ?_
  refine wc_seq ?_
  refine wc_seq ?_
  refine wc_region_a0 5 mo_ rfl ?_
  refine wa_take 0 rfl (by kernel_rfl) (by kernel_rfl) (by kernel_rfl) (by kernel_rfl) (fun _ h => h.maskG [true, true, true, true, true, true, true, true, true, true] [(true, ds33), (true, ds28), (true, ds26), (true, ds23)] rfl rfl) gd_none rfl (val_loadB (.tail _ (.tail _ (.tail _ (.head _)))) (lk rfl) ag_29) ?_
  refine wa_take 1 rfl (by kernel_rfl) (by kernel_rfl) (by kernel_rfl) (by kernel_rfl) (fun _ h => h.maskG [true, true, true, true, true, true, true, true, true, true] [(true, ds33), (true, ds28), (true, ds26), (true, ds23)] rfl rfl) gd_none rfl (val_loadB (.tail _ (.tail _ (.tail _ (.tail _ (.tail _ (.tail _ (.tail _ (.tail _ (.tail _ (.head _)))))))))) (lk rfl) ag_24) ?_
  refine wa_only 2 (by kernel_rfl) rfl ?_
  refine wl_callU (Ds := [ds33, ds28, ds26, ds23]) 10 rfl ci_11 (args1 (lk rfl)) rfl (fun w1 hw => toBuf_c _ _ _ _ _ _ _ w1 (hA.hpT hw (m := 10) (Ds := [ds33, ds28, ds26, ds23]) rfl rfl) (by omega)) (fun _ => rfl) ?_
  rintro ⟨g40, c40, ds40, sp40⟩ ⟨hp40, hl40, hc40⟩
  simp only at hp40 hl40 hc40
  have hq40 := plcap hp40 hl40
  refine wl_nil (px_qn (fun _ h => h.maskG [false, true, true, true, true, true, true, true, true, true, true] [(false, ds40), (true, ds33), (true, ds28), (true, ds26), (true, ds23)] rfl rfl) ?_)
  refine wa_only 3 (by kernel_rfl) rfl ?_
  refine wl_call gd_none rfl ci_13 (args2 (lk rfl) (lk rfl)) (fun hG w1 hw => eqBuf_c _ _ _ _ _ _ _ _ _ _ _ _ _ _ w1 (Pay.own hw (.tail _ (.tail _ (.tail _ (.tail _ (.tail _ (.head _)))))) rfl (m := 11) (Ds := [ds40, ds33, ds28, ds26, ds23]) rfl (j := 2) rfl hp28) (Pay.own hw (.head _) rfl (m := 11) (Ds := [ds40, ds33, ds28, ds26, ds23]) rfl (j := 0) rfl hp40) (by omega)) ?_
  refine wl_nil (px_qn (fun _ h => h.maskG [false, true, true, true, true, true, true, true, true, true, true] [(false, ds40), (true, ds33), (true, ds28), (true, ds26), (true, ds23)] rfl rfl) ?_)
  refine wa_take 4 rfl (by kernel_rfl) (by kernel_rfl) (by kernel_rfl) (by kernel_rfl) (fun _ h => h.maskG [false, true, true, true, true, true, true, true, true, true, true] [(false, ds40), (true, ds33), (true, ds28), (true, ds26), (true, ds23)] rfl rfl) gd_none rfl (val_not (lk rfl)) ?_
  refine wa_done (by kernel_rfl) ?_
  refine px_then ?_
  refine wc_cond (lk rfl) (fun hc3 => ?_) (fun hc3 => ?_)
  · (exfalso; have h9 := hc3; first | (simp [eqPE, eq8E] at h9; done) | (simp [eqPE, eq8E] at h9; omega))
  refine wc_skip ?_
  refine px_then ?_
  refine wc_seq ?_
  refine wc_seq ?_
  refine wc_region ?_
  refine wl_v rfl (val_move (lk rfl)) ?_
  refine wl_v rfl (val_move (lk rfl)) ?_
  refine wl_callx rfl ci_32 (args1 (lk rfl)) (fun w1 hw => toByteS_c _ _ _ _ _ w1 (hs2.hp hw (drop_new (m := 11) (Ds := [ds40, ds33, ds28, ds26, ds23]) rfl rfl)) (by omega)) (fun _ => rfl) ?_
  rintro gb45 -
  refine wl_call gd_none rfl ci_33 (args2 (lk rfl) (lk rfl)) (fun hG w1 hw => eqByteS_c _ _ _ _ _ _ _ _ _ _ w1 (Sl.own' hw (.tail _ (.tail _ (.tail _ (.tail _ (.head _)))))) (Sl.own' hw (.head _)) (by omega)) ?_
  refine wl_v rfl (val_not (lk rfl)) ?_
  refine wl_nil ?_
  refine px_then ?_
  refine wc_cond (lk rfl) (fun hc4 => ?_) (fun hc4 => ?_)
  · (exfalso; have h9 := hc4; first | (simp [eqPE, eq8E] at h9; done) | (simp [eqPE, eq8E] at h9; omega))
  refine wc_skip ?_
  refine px_then ?_
  refine wc_seq ?_
  refine wc_region ?_
  refine wl_v rfl (val_assign lkc) ?_
  refine wl_nil ?_
  refine px_then ?_
  refine wc_seq ?_
  refine wc_region ?_
  refine wl_v rfl (val_loadB (.tail _ (.tail _ (.tail _ (.tail _ (.tail _ (.head _)))))) (lk rfl) ag_29) ?_
  refine wl_v rfl (val_move (lk rfl)) ?_
  refine wl_callM (Ds := [ds40, ds33, ds28, ds26, ds23]) 12 2 rfl ci_19 (args2 (lk rfl) (lk rfl)) rfl rfl (fun _ _ => mkD_num _ _) (fun w1 hw => markBuf_c _ _ ds28 _ _ _ _ 1 w1 (Mark.of hw (.tail _ (.tail _ (.tail _ (.tail _ (.tail _ (.tail _ (.head _))))))) (m := 12) (Ds := [ds40, ds33, ds28, ds26, ds23]) rfl (j := 2) rfl) hp28 (by omega) (by first | omega | (simp only [tot]; omega))) ?_
  rintro ⟨⟩ -
  refine wl_v rfl (val_assign (lk rfl)) ?_
  refine wl_nil ?_
  refine px_then ?_
  refine wc_seq ?_
  refine wc_region ?_
  refine wl_v rfl (val_move (lk rfl)) ?_
  refine wl_v rfl (val_move (lk rfl)) ?_
  refine wl_callw 4 rfl ci_34 (args2 (lk rfl) (lk rfl)) rfl (fun w1 hw => markByteS_c _ _ _ _ _ _ w1 (fun _ => rfl) (hw.own _ (.tail _ (.tail _ (.tail _ (.tail _ (.head _)))))) (by omega) (by omega) (by rw [bv_len]; exact Nat.le_refl _)) (fun _ => rfl) ?_
  rintro ⟨⟩ -
  refine wl_v rfl (val_assign (lk rfl)) ?_
  refine wl_nil ?_
  refine px_then ?_
  refine wc_seq ?_
  refine wc_seq ?_
  refine wc_region ?_
  refine wl_v rfl (val_move (lk rfl)) ?_
  refine wl_v rfl (val_lss (lk rfl) lkc) ?_
  refine wl_v rfl (val_move (lk rfl)) ?_
  refine wl_val (gd_f rfl rfl rfl) rfl (val_loadB (.tail _ (.tail _ (.head _))) (lk rfl) ag_29) ?_
  refine wl_val (gd_f rfl rfl rfl) rfl (val_loadB (.tail _ (.tail _ (.tail _ (.tail _ (.tail _ (.tail _ (.tail _ (.head _)))))))) (lk rfl) ag_29) ?_
  refine wl_call (gd_f rfl rfl rfl) rfl ci_13 (args2 (lkg rfl) (lkg rfl)) (fun hG w1 hw => eqBuf_c _ _ _ _ _ _ _ _ _ _ _ _ _ _ w1 (Pay.own hw (.tail _ (.tail _ (.tail _ (.head _)))) rfl (m := 12) (Ds := [ds40, ds33, (mkD 1 ds28), ds26, ds23]) rfl (j := 1) rfl hp33) (Pay.own hw (.tail _ (.tail _ (.tail _ (.tail _ (.tail _ (.tail _ (.tail _ (.tail _ (.head _))))))))) rfl (m := 12) (Ds := [ds40, ds33, (mkD 1 ds28), ds26, ds23]) rfl (j := 3) rfl hp26) (by omega)) ?_
  refine wl_val (gd_f rfl rfl rfl) rfl (val_not (lkg rfl)) ?_
  refine wl_v rfl (val_or (lk rfl) (lkg rfl)) ?_
  refine wl_nil ?_
  refine px_then ?_
  refine wc_cond (lk rfl) (fun hc5 => ?_) (fun hc5 => ?_)
  · (exfalso; have h9 := hc5; first | (simp [eqPE, eq8E] at h9; done) | (simp [eqPE, eq8E] at h9; omega))
  refine wc_skip ?_
  refine px_then ?_
  refine wc_seq ?_
  refine wc_region ?_
  refine wl_v rfl (val_assign lkc) ?_
  refine wl_nil ?_
  refine px_then ?_
  refine wc_seq ?_
  refine wc_region ?_
  refine wl_v rfl (val_loadB (.tail _ (.tail _ (.head _))) (lk rfl) ag_29) ?_
  refine wl_v rfl (val_move (lk rfl)) ?_
  refine wl_callM (Ds := [ds40, ds33, (mkD 1 ds28), ds26, ds23]) 12 1 rfl ci_19 (args2 (lk rfl) (lk rfl)) rfl rfl (fun _ _ => mkD_num _ _) (fun w1 hw => markBuf_c _ _ ds33 _ _ _ _ 1 w1 (Mark.of hw (.tail _ (.tail _ (.tail _ (.head _)))) (m := 12) (Ds := [ds40, ds33, (mkD 1 ds28), ds26, ds23]) rfl (j := 1) rfl) hp33 (by omega) (by first | omega | (simp only [tot]; omega))) ?_
  rintro ⟨⟩ -
  refine wl_v rfl (val_assign (lk rfl)) ?_
  refine wl_nil ?_
  refine px_then ?_
  refine wc_seq ?_
  refine wc_region ?_
  refine wl_v rfl (val_assign lkc) ?_
  refine wl_nil ?_
  refine px_then ?_
  refine wc_seq ?_
  refine wc_region ?_
  refine wl_v rfl (val_loadB (.tail _ (.tail _ (.head _))) (lk rfl) ag_29) ?_
  refine wl_v rfl (val_move (lk rfl)) ?_
  refine wl_call gd_none rfl ci_21 (args2 (lk rfl) (lk rfl)) (fun hG w1 hw => heldBuf_c _ _ _ _ _ _ _ 1 w1 (Pay.own hw (.tail _ (.tail _ (.tail _ (.head _)))) (inC_mkD _ _) (m := 12) (Ds := [ds40, (mkD 1 ds33), (mkD 1 ds28), ds26, ds23]) rfl (j := 1) rfl (pays_mk 1 hp33)) (by omega) (by first | omega | (simp only [tot]; omega))) ?_
  refine wl_v rfl (val_assign (lk rfl)) ?_
  refine wl_nil ?_
  refine px_then ?_
  refine wc_seq ?_
  refine wc_seq ?_
  refine wc_region ?_
  refine wl_v rfl (val_move (lk rfl)) ?_
  refine wl_v rfl (val_lss (lk rfl) lkc) ?_
  refine wl_nil ?_
  refine px_then ?_
  refine wc_cond (lk rfl) (fun hc6 => ?_) (fun hc6 => ?_)
  · (exfalso; have h9 := hc6; first | (simp [eqPE, eq8E] at h9; done) | (simp [eqPE, eq8E] at h9; omega))
  refine wc_skip ?_
  refine px_then ?_
  refine wc_seq ?_
  refine wc_seq ?_
  refine wc_region ?_
  refine wl_v rfl (val_move (lk rfl)) ?_
  refine wl_v rfl (val_move (lk rfl)) ?_
  refine wl_v rfl (val_neq (lk rfl) (lk rfl)) ?_
  refine wl_nil ?_
  refine px_then ?_
  refine wc_cond (lk rfl) (fun hc7 => ?_) (fun hc7 => ?_)
  · (exfalso; have h9 := hc7; first | (simp [eqPE, eq8E] at h9; done) | (simp [eqPE, eq8E] at h9; omega))
  refine wc_skip ?_
  refine px_then ?_
  refine wc_seq ?_
  refine wc_region ?_
  refine wl_v rfl (val_loadB (.tail _ (.tail _ (.tail _ (.tail _ (.tail _ (.tail _ (.tail _ (.tail _ (.tail _ (.tail _ (.tail _ (.head _)))))))))))) (lk rfl) ag_24) ?_
  refine wl_callU (Ds := [ds40, (mkD 1 ds33), (mkD 1 ds28), ds26, ds23]) 12 rfl ci_11 (args1 (lk rfl)) rfl (fun w1 hw => toBuf_c _ _ _ _ _ _ _ w1 (hA.hpT hw (m := 12) (Ds := [ds40, (mkD 1 ds33), (mkD 1 ds28), ds26, ds23]) rfl rfl) (by omega)) (fun _ => rfl) ?_
  rintro ⟨g74, c74, ds74, sp74⟩ ⟨hp74, hl74, hc74⟩
  simp only at hp74 hl74 hc74
  have hq74 := plcap hp74 hl74
  refine wl_v rfl (val_move (lk rfl)) ?_
  refine wl_callx rfl ci_32 (args1 (lk rfl)) (fun w1 hw => toByteS_c _ _ _ _ _ w1 (hs2.hp hw (drop_new (m := 13) (Ds := [ds74, ds40, (mkD 1 ds33), (mkD 1 ds28), ds26, ds23]) rfl rfl)) (by omega)) (fun _ => rfl) ?_
  rintro gb76 -
  refine wl_callU (Ds := [ds74, ds40, (mkD 1 ds33), (mkD 1 ds28), ds26, ds23]) 14 rfl ci_27 (args2 (lk rfl) (lk rfl)) rfl (fun w1 hw => Enq_c _ _ _ _ _ _ _ _ _ _ _ _ w1 (Pay.own hw (.tail _ (.head _)) rfl (m := 14) (Ds := [ds74, ds40, (mkD 1 ds33), (mkD 1 ds28), ds26, ds23]) rfl (j := 0) rfl hp74) (by omega) (Sl.own' hw (.head _)) (by omega)) (fun _ => rfl) ?_
  rintro ⟨g77, c77, ds77, sp77⟩ ⟨hp77, hl77, hc77⟩
  simp only at hp77 hl77 hc77
  have hq77 := plcap hp77 hl77
  refine wl_alloc zc_29 rfl fun b5 => ?_
  refine wl_storeB 0 rfl (lk rfl) (lk rfl) ag_29 rfl rfl ?_
  refine wl_nil ?_
  refine px_then ?_
  refine wc_seq ?_
  refine wc_seq ?_
  refine wc_region ?_
  refine wl_v rfl (val_loadB (.head _) (lk rfl) ag_29) ?_
  refine wl_v rfl (val_loadB (.tail _ (.tail _ (.tail _ (.tail _ (.tail _ (.tail _ (.tail _ (.tail _ (.tail _ (.tail _ (.tail _ (.head _)))))))))))) (lk rfl) ag_29) ?_
  refine wl_call gd_none rfl ci_13 (args2 (lk rfl) (lk rfl)) (fun hG w1 hw => eqBuf_c _ _ _ _ _ _ _ _ _ _ _ _ _ _ w1 (Pay.own hw (.tail _ (.head _)) rfl (m := 16) (Ds := [ds77, ds74, ds40, (mkD 1 ds33), (mkD 1 ds28), ds26, ds23]) rfl (j := 0) rfl hp77) (Pay.own hw (.tail _ (.tail _ (.tail _ (.tail _ (.tail _ (.tail _ (.tail _ (.tail _ (.tail _ (.tail _ (.tail _ (.tail _ (.head _))))))))))))) rfl (m := 16) (Ds := [ds77, ds74, ds40, (mkD 1 ds33), (mkD 1 ds28), ds26, ds23]) rfl (j := 5) rfl hp26) (by omega)) ?_
  refine wl_v rfl (val_not (lk rfl)) ?_
  refine wl_nil ?_
  refine px_then ?_
  refine wc_cond (lk rfl) (fun hc8 => ?_) (fun hc8 => ?_)
  · (exfalso; have h9 := hc8; first | (simp [eqPE, eq8E] at h9; done) | (simp [eqPE, eq8E] at h9; omega))
  refine wc_skip ?_
  refine px_then ?_
  refine wc_seq ?_
  refine wc_region ?_
  refine wl_v rfl (val_assign lkc) ?_
  refine wl_nil ?_
  refine px_then ?_
  refine wc_seq ?_
  refine wc_region ?_
  refine wl_v rfl (val_loadB (.tail _ (.tail _ (.tail _ (.tail _ (.tail _ (.tail _ (.head _))))))) (lk rfl) ag_29) ?_
  refine wl_v rfl (val_move (lk rfl)) ?_
  refine wl_call gd_none rfl ci_21 (args2 (lk rfl) (lk rfl)) (fun hG w1 hw => heldBuf_c _ _ _ _ _ _ _ 1 w1 (Pay.own hw (.tail _ (.tail _ (.tail _ (.tail _ (.tail _ (.tail _ (.tail _ (.head _)))))))) (inC_mkD _ _) (m := 16) (Ds := [ds77, ds74, ds40, (mkD 1 ds33), (mkD 1 ds28), ds26, ds23]) rfl (j := 3) rfl (pays_mk 1 hp33)) (by omega) (by first | omega | (simp only [tot]; omega))) ?_
  refine wl_v rfl (val_assign (lk rfl)) ?_
  refine wl_nil ?_
  refine px_then ?_
  refine wc_seq ?_
  refine wc_seq ?_
  refine wc_region ?_
  refine wl_v rfl (val_move (lk rfl)) ?_
  refine wl_v rfl (val_lss (lk rfl) lkc) ?_
  refine wl_nil ?_
  refine px_then ?_
  refine wc_cond (lk rfl) (fun hc9 => ?_) (fun hc9 => ?_)
  · (exfalso; have h9 := hc9; first | (simp [eqPE, eq8E] at h9; done) | (simp [eqPE, eq8E] at h9; omega))
  refine wc_skip ?_
  refine px_then ?_
  refine wc_seq ?_
  refine wc_seq ?_
  refine wc_region ?_
  refine wl_v rfl (val_move (lk rfl)) ?_
  refine wl_v rfl (val_move (lk rfl)) ?_
  refine wl_v rfl (val_neq (lk rfl) (lk rfl)) ?_
  refine wl_nil ?_
  refine px_then ?_
  refine wc_cond (lk rfl) (fun hc10 => ?_) (fun hc10 => ?_)
  · (exfalso; have h9 := hc10; first | (simp [eqPE, eq8E] at h9; done) | (simp [eqPE, eq8E] at h9; omega))
  refine wc_skip ?_
  refine px_then ?_
  refine wc_seq ?_
  refine wc_region ?_
  refine wl_v rfl (val_assign lkc) ?_
  refine wl_nil ?_
  refine px_then ?_
  refine wc_ret ?_
  refine fin1 rfl (res_tmp rfl) (fun w1 hw => ?_)
  exact ⟨rfl, (hw.drop (drop_new (m := 16) (Ds := [ds77, ds74, ds40, (mkD 1 ds33), (mkD 1 ds28), ds26, ds23]) rfl rfl))⟩

end Go.Proofs.Ytfinobpodmdkgaa
