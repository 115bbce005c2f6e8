/- Paging buffers: the laws on taking out, walked. -/
import Derived.Test.YtfinobpodmdkgaaSxQ
namespace Go.Proofs.Ytfinobpodmdkgaa
open Go.RowKit


theorem eqPD (ps : PS) : eqRows eqB ps ps = true := eqRows_refl eqB_refl ps

theorem law_Drain (q dr : Int) (ps : PS) (A : Option Addr) (b o c : Nat) (w : World) (hA : Pay w A b o ps) (hcap : ps.length ≤ c) (hc63 : c ≤ 9223372036854775807) (hcaps : ∀ k, k < ps.length → (nth [] ps k).length ≤ 9223372036854775807) :
    Calls Try.prog 5 #[.agg #[.int .i64 q, .slice A ps.length c, .int .i64 dr]] w fun e w' => e = .returned (.bool true) ∧ HP w [] w' := by
  refine calls_entry [] _ Try.func5 rfl Try.ntmps5 (HP.refl w) (env1 rfl) ?_
  refine wc_seq ?_
  refine wc_region ?_
  refine wl_box (lk rfl) rfl fun b1 => ?_
  refine wl_v rfl (val_assign lkc) ?_
  refine wl_nil ?_
  refine px_then ?_
  refine wc_seq ?_
  refine wc_region ?_
  refine wl_v rfl (val_assign lkc) ?_
  refine wl_nil ?_
  refine px_then ?_
  refine wc_seq ?_
  refine wc_region ?_
  refine wl_v rfl (val_loadB (.head _) (lk rfl) ag_24) ?_
  refine wl_v rfl (val_move (lk rfl)) ?_
  refine wl_call gd_none rfl ci_9 (args2 (lk rfl) (lk rfl)) (fun hG w1 hw => szBuf_c _ _ ps _ _ _ _ 1048576 w1 (hA.hpT hw (m := 1) (Ds := []) rfl rfl) (by omega) hcaps (by decide)) ?_
  refine wl_v rfl (val_assign (lk rfl)) ?_
  refine wl_nil ?_
  refine px_then ?_
  refine wc_seq ?_
  refine wc_seq ?_
  refine wc_region ?_
  refine wl_v rfl (val_move (lk rfl)) ?_
  refine wl_v rfl (val_lss (lk rfl) lkc) ?_
  refine wl_nil ?_
  refine px_then ?_
  refine wc_cond (lk rfl) (fun hc0 => ?_) (fun hc0 => ?_)
  · refine wc_seq ?_
    refine wc_region ?_
    refine wl_v rfl (val_assign lkc) ?_
    refine wl_nil ?_
    refine px_then ?_
    refine wc_ret ?_
    refine px_then_ret ?_
    refine fin1 rfl (res_tmp rfl) (fun w1 hw => ?_)
    exact ⟨rfl, (hw.drop rfl)⟩
  have hb := szP_ok (of_decide_eq_false hc0)
  refine wc_skip ?_
  refine px_then ?_
  refine wc_seq ?_
  refine wc_region ?_
  refine wl_v rfl (val_loadB (.head _) (lk rfl) ag_24) ?_
  refine wl_callU (Ds := []) 1 rfl ci_11 (args1 (lk rfl)) rfl (fun w1 hw => toBuf_c _ _ _ _ _ _ _ w1 (hA.hpT hw (m := 1) (Ds := []) rfl rfl) (by omega)) (fun _ => rfl) ?_
  rintro ⟨g21, c21, ds21, sp21⟩ ⟨hp21, hl21, hc21⟩
  simp only at hp21 hl21 hc21
  have hq21 := plcap hp21 hl21
  refine wl_callU (Ds := [ds21]) 2 rfl ci_16 (args1 (lk rfl)) rfl (fun w1 hw => sDrain_c _ _ _ _ _ _ _ w1 (Pay.own hw (.head _) rfl (m := 2) (Ds := [ds21]) rfl (j := 0) rfl hp21) (by omega)) (fun _ => rfl) ?_
  rintro ⟨g22, c22, ds22, sp22⟩ ⟨hp22, hl22, hc22⟩
  simp only at hp22 hl22 hc22
  have hq22 := plcap hp22 hl22
  refine wl_v rfl (val_move (lk rfl)) ?_
  refine wl_v rfl (val_extract (lk rfl) rfl) ?_
  refine wl_v rfl (val_extract (lk rfl) rfl) ?_
  refine wl_alloc zc_29 rfl fun b2 => ?_
  refine wl_storeB 0 rfl (lk rfl) (lk rfl) ag_29 rfl rfl ?_
  refine wl_v rfl (val_assign (lk rfl)) ?_
  refine wl_nil ?_
  refine px_then ?_
  refine wc_seq ?_
  refine wc_region ?_
  refine wl_v rfl (val_loadB (.tail _ (.tail _ (.tail _ (.head _)))) (lk rfl) ag_24) ?_
  refine wl_callU (Ds := [ds22, ds21]) 4 rfl ci_11 (args1 (lk rfl)) rfl (fun w1 hw => toBuf_c _ _ _ _ _ _ _ w1 (hA.hpT hw (m := 4) (Ds := [ds22, ds21]) rfl rfl) (by omega)) (fun _ => rfl) ?_
  rintro ⟨g26, c26, ds26, sp26⟩ ⟨hp26, hl26, hc26⟩
  simp only at hp26 hl26 hc26
  have hq26 := plcap hp26 hl26
  refine wl_alloc zc_29 rfl fun b3 => ?_
  refine wl_storeB 0 rfl (lk rfl) (lk rfl) ag_29 rfl rfl ?_
  refine wl_nil ?_
  refine px_then ?_
  refine wc_seq ?_
  refine wc_region ?_
  refine wl_v rfl (val_loadB (.head _) (lk rfl) ag_29) ?_
  refine wl_callU (Ds := [ds26, ds22, ds21]) 6 rfl ci_17 (args1 (lk rfl)) rfl (fun w1 hw => Drain_c _ _ _ _ _ _ _ w1 (Pay.own hw (.tail _ (.head _)) rfl (m := 6) (Ds := [ds26, ds22, ds21]) rfl (j := 0) rfl hp26) (by omega)) (fun _ => rfl) ?_
  rintro ⟨g29, c29, ds29, sp29⟩ ⟨hp29, hl29, hc29⟩
  simp only at hp29 hl29 hc29
  have hq29 := plcap hp29 hl29
  refine wl_v rfl (val_move (lk rfl)) ?_
  refine wl_v rfl (val_extract (lk rfl) rfl) ?_
  refine wl_v rfl (val_extract (lk rfl) rfl) ?_
  refine wl_alloc zc_29 rfl fun b4 => ?_
  refine wl_storeB 0 rfl (lk rfl) (lk rfl) ag_29 rfl rfl ?_
  refine wl_v rfl (val_assign (lk rfl)) ?_
  refine wl_nil ?_
  refine px_then ?_
  refine wc_seq ?_
  refine wc_seq ?_
  refine wc_region ?_
  refine wl_v rfl (val_loadB (.head _) (lk rfl) ag_29) ?_
  refine wl_v rfl (val_loadB (.tail _ (.tail _ (.tail _ (.tail _ (.head _))))) (lk rfl) ag_29) ?_
  refine wl_call gd_none rfl ci_13 (args2 (lk rfl) (lk rfl)) (fun hG w1 hw => eqBuf_c q dr q dr [] [] none none 0 0 0 0 0 0 w1 Pay.nil Pay.nil (by decide)) ?_
  refine wl_v rfl (val_not (lk rfl)) ?_
  refine wl_v rfl (val_move (lk rfl)) ?_
  refine wl_val (gd_f rfl rfl rfl) rfl (val_move (lk rfl)) ?_
  refine wl_val (gd_f rfl rfl rfl) rfl (val_move (lk rfl)) ?_
  refine wl_call (gd_f rfl rfl rfl) rfl ci_18 (args2 (lkg rfl) (lkg rfl)) (fun hG w1 hw => eqPayS_c _ _ _ _ _ _ _ _ _ _ w1 (Pay.own hw (.tail _ (.head _)) rfl (m := 8) (Ds := [ds29, ds26, ds22, ds21]) rfl (j := 0) rfl hp29) (Pay.own hw (.tail _ (.tail _ (.tail _ (.tail _ (.tail _ (.head _)))))) rfl (m := 8) (Ds := [ds29, ds26, ds22, ds21]) rfl (j := 2) rfl hp22) (by omega)) ?_
  refine wl_val (gd_f rfl rfl rfl) rfl (val_not (lkg rfl)) ?_
  refine wl_v rfl (val_or (lk rfl) (lkg rfl)) ?_
  refine wl_nil ?_
  refine px_then ?_
  refine wc_cond (lk rfl) (fun hc1 => ?_) (fun hc1 => ?_)
  · (exfalso; have h9 := hc1; first | (simp [eqPD] at h9; done) | (simp [eqPD] at h9; omega))
  refine wc_skip ?_
  refine px_then ?_
  refine wc_seq ?_
  refine wc_seq ?_
  refine wc_region_a0 5 mo_ rfl ?_
  refine wa_take 0 rfl (by kernel_rfl) (by kernel_rfl) (by kernel_rfl) (by kernel_rfl) (fun _ h => h.maskG [true, true, true, true, true, true, true, true] [(true, ds29), (true, ds26), (true, ds22), (true, ds21)] rfl rfl) gd_none rfl (val_loadB (.tail _ (.tail _ (.head _))) (lk rfl) ag_29) ?_
  refine wa_take 1 rfl (by kernel_rfl) (by kernel_rfl) (by kernel_rfl) (by kernel_rfl) (fun _ h => h.maskG [true, true, true, true, true, true, true, true] [(true, ds29), (true, ds26), (true, ds22), (true, ds21)] rfl rfl) gd_none rfl (val_loadB (.tail _ (.tail _ (.tail _ (.tail _ (.tail _ (.tail _ (.tail _ (.head _)))))))) (lk rfl) ag_24) ?_
  refine wa_only 2 (by kernel_rfl) rfl ?_
  refine wl_callU (Ds := [ds29, ds26, ds22, ds21]) 8 rfl ci_11 (args1 (lk rfl)) rfl (fun w1 hw => toBuf_c _ _ _ _ _ _ _ w1 (hA.hpT hw (m := 8) (Ds := [ds29, ds26, ds22, ds21]) rfl rfl) (by omega)) (fun _ => rfl) ?_
  rintro ⟨g44, c44, ds44, sp44⟩ ⟨hp44, hl44, hc44⟩
  simp only at hp44 hl44 hc44
  have hq44 := plcap hp44 hl44
  refine wl_nil (px_qn (fun _ h => h.maskG [false, true, true, true, true, true, true, true, true] [(false, ds44), (true, ds29), (true, ds26), (true, ds22), (true, ds21)] rfl rfl) ?_)
  refine wa_only 3 (by kernel_rfl) rfl ?_
  refine wl_call gd_none rfl ci_13 (args2 (lk rfl) (lk rfl)) (fun hG w1 hw => eqBuf_c _ _ _ _ _ _ _ _ _ _ _ _ _ _ w1 (Pay.own hw (.tail _ (.tail _ (.tail _ (.tail _ (.head _))))) rfl (m := 9) (Ds := [ds44, ds29, ds26, ds22, ds21]) rfl (j := 2) rfl hp26) (Pay.own hw (.head _) rfl (m := 9) (Ds := [ds44, ds29, ds26, ds22, ds21]) rfl (j := 0) rfl hp44) (by omega)) ?_
  refine wl_nil (px_qn (fun _ h => h.maskG [false, true, true, true, true, true, true, true, true] [(false, ds44), (true, ds29), (true, ds26), (true, ds22), (true, ds21)] rfl rfl) ?_)
  refine wa_take 4 rfl (by kernel_rfl) (by kernel_rfl) (by kernel_rfl) (by kernel_rfl) (fun _ h => h.maskG [false, true, true, true, true, true, true, true, true] [(false, ds44), (true, ds29), (true, ds26), (true, ds22), (true, ds21)] rfl rfl) gd_none rfl (val_not (lk rfl)) ?_
  refine wa_done (by kernel_rfl) ?_
  refine px_then ?_
  refine wc_cond (lk rfl) (fun hc2 => ?_) (fun hc2 => ?_)
  · (exfalso; have h9 := hc2; first | (simp [eqPD] at h9; done) | (simp [eqPD] at h9; omega))
  refine wc_skip ?_
  refine px_then ?_
  refine wc_seq ?_
  refine wc_region ?_
  refine wl_v rfl (val_assign lkc) ?_
  refine wl_nil ?_
  refine px_then ?_
  refine wc_seq ?_
  refine wc_region ?_
  refine wl_v rfl (val_loadB (.tail _ (.tail _ (.tail _ (.head _)))) (lk rfl) ag_29) ?_
  refine wl_v rfl (val_move (lk rfl)) ?_
  refine wl_callM (Ds := [ds44, ds29, ds26, ds22, ds21]) 9 2 rfl ci_19 (args2 (lk rfl) (lk rfl)) rfl rfl (fun _ _ => mkD_num _ _) (fun w1 hw => markBuf_c _ _ ds26 _ _ _ _ 1 w1 (Mark.of hw (.tail _ (.tail _ (.tail _ (.tail _ (.head _))))) (m := 9) (Ds := [ds44, ds29, ds26, ds22, ds21]) rfl (j := 2) rfl) hp26 (by omega) (by first | omega | (simp only [tot]; omega))) ?_
  rintro ⟨⟩ -
  refine wl_v rfl (val_assign (lk rfl)) ?_
  refine wl_nil ?_
  refine px_then ?_
  refine wc_seq ?_
  refine wc_seq ?_
  refine wc_region ?_
  refine wl_v rfl (val_move (lk rfl)) ?_
  refine wl_v rfl (val_lss (lk rfl) lkc) ?_
  refine wl_v rfl (val_move (lk rfl)) ?_
  refine wl_val (gd_f rfl rfl rfl) rfl (val_loadB (.tail _ (.head _)) (lk rfl) ag_29) ?_
  refine wl_val (gd_f rfl rfl rfl) rfl (val_loadB (.tail _ (.tail _ (.tail _ (.tail _ (.tail _ (.head _)))))) (lk rfl) ag_29) ?_
  refine wl_call (gd_f rfl rfl rfl) rfl ci_13 (args2 (lkg rfl) (lkg rfl)) (fun hG w1 hw => eqBuf_c q dr q dr [] [] none none 0 0 0 0 0 0 w1 Pay.nil Pay.nil (by decide)) ?_
  refine wl_val (gd_f rfl rfl rfl) rfl (val_not (lkg rfl)) ?_
  refine wl_v rfl (val_or (lk rfl) (lkg rfl)) ?_
  refine wl_v rfl (val_move (lk rfl)) ?_
  refine wl_val (gd_f rfl rfl rfl) rfl (val_move (lk rfl)) ?_
  refine wl_val (gd_f rfl rfl rfl) rfl (val_move (lk rfl)) ?_
  refine wl_call (gd_f rfl rfl rfl) rfl ci_18 (args2 (lkg rfl) (lkg rfl)) (fun hG w1 hw => eqPayS_c _ _ _ _ _ _ _ _ _ _ w1 (Pay.own hw (.tail _ (.tail _ (.head _))) rfl (m := 9) (Ds := [ds44, ds29, (mkD 1 ds26), ds22, ds21]) rfl (j := 1) rfl hp29) (Pay.own hw (.tail _ (.tail _ (.tail _ (.tail _ (.tail _ (.tail _ (.head _))))))) rfl (m := 9) (Ds := [ds44, ds29, (mkD 1 ds26), ds22, ds21]) rfl (j := 3) rfl hp22) (by omega)) ?_
  refine wl_val (gd_f rfl rfl rfl) rfl (val_not (lkg rfl)) ?_
  refine wl_v rfl (val_or (lk rfl) (lkg rfl)) ?_
  refine wl_nil ?_
  refine px_then ?_
  refine wc_cond (lk rfl) (fun hc3 => ?_) (fun hc3 => ?_)
  · (exfalso; have h9 := hc3; first | (simp [eqPD] at h9; done) | (simp [eqPD] at h9; omega))
  refine wc_skip ?_
  refine px_then ?_
  refine wc_seq ?_
  refine wc_region ?_
  refine wl_v rfl (val_assign lkc) ?_
  refine wl_nil ?_
  refine px_then ?_
  refine wc_seq ?_
  refine wc_region ?_
  refine wl_v rfl (val_loadB (.tail _ (.head _)) (lk rfl) ag_29) ?_
  refine wl_v rfl (val_move (lk rfl)) ?_
  refine wl_call gd_none rfl ci_19 (args2 (lk rfl) (lk rfl)) (fun hG w1 hw => (markBuf_c q dr [] [] none 0 0 1 w1 Mark.nil rfl (by decide) (by decide)).mono fun e w' ⟨_, _, h1, h2⟩ => ⟨h1, h2⟩) ?_
  refine wl_v rfl (val_assign (lk rfl)) ?_
  refine wl_nil ?_
  refine px_then ?_
  refine wc_seq ?_
  refine wc_region ?_
  refine wl_v rfl (val_move (lk rfl)) ?_
  refine wl_v rfl (val_move (lk rfl)) ?_
  refine wl_callM (Ds := [ds44, ds29, (mkD 1 ds26), ds22, ds21]) 9 1 rfl ci_20 (args2 (lk rfl) (lk rfl)) rfl rfl (fun _ _ => mkD_num _ _) (fun w1 hw => markPayS_c ds29 _ _ _ _ (1 + tot []) w1 (Mark.of hw (.tail _ (.tail _ (.head _))) (m := 9) (Ds := [ds44, ds29, (mkD 1 ds26), ds22, ds21]) rfl (j := 1) rfl) hp29 (by omega) (by first | omega | (simp only [tot]; omega))) ?_
  rintro ⟨⟩ -
  refine wl_v rfl (val_assign (lk rfl)) ?_
  refine wl_nil ?_
  refine px_then ?_
  refine wc_seq ?_
  refine wc_region ?_
  refine wl_v rfl (val_assign lkc) ?_
  refine wl_nil ?_
  refine px_then ?_
  refine wc_seq ?_
  refine wc_region ?_
  refine wl_v rfl (val_loadB (.tail _ (.head _)) (lk rfl) ag_29) ?_
  refine wl_v rfl (val_move (lk rfl)) ?_
  refine wl_call gd_none rfl ci_21 (args2 (lk rfl) (lk rfl)) (fun hG w1 hw => heldBuf_c q dr [] none 0 0 0 1 w1 Pay.nil (by decide) (by decide)) ?_
  refine wl_v rfl (val_assign (lk rfl)) ?_
  refine wl_nil ?_
  refine px_then ?_
  refine wc_seq ?_
  refine wc_seq ?_
  refine wc_region ?_
  refine wl_v rfl (val_move (lk rfl)) ?_
  refine wl_v rfl (val_lss (lk rfl) lkc) ?_
  refine wl_nil ?_
  refine px_then ?_
  refine wc_cond (lk rfl) (fun hc4 => ?_) (fun hc4 => ?_)
  · (exfalso; have h9 := hc4; first | (simp [eqPD] at h9; done) | (simp [eqPD] at h9; omega))
  refine wc_skip ?_
  refine px_then ?_
  refine wc_seq ?_
  refine wc_region ?_
  refine wl_v rfl (val_move (lk rfl)) ?_
  refine wl_v rfl (val_move (lk rfl)) ?_
  refine wl_call gd_none rfl ci_22 (args2 (lk rfl) (lk rfl)) (fun hG w1 hw => heldPayS_c _ _ _ _ _ (1 + tot []) w1 (Pay.own hw (.tail _ (.tail _ (.head _))) (inC_mkD _ _) (m := 9) (Ds := [ds44, (mkD (1 + tot []) ds29), (mkD 1 ds26), ds22, ds21]) rfl (j := 1) rfl (pays_mk (1 + tot []) hp29)) (by omega) (by first | omega | (simp only [tot]; omega))) ?_
  refine wl_v rfl (val_assign (lk rfl)) ?_
  refine wl_nil ?_
  refine px_then ?_
  refine wc_seq ?_
  refine wc_seq ?_
  refine wc_region ?_
  refine wl_v rfl (val_move (lk rfl)) ?_
  refine wl_v rfl (val_lss (lk rfl) lkc) ?_
  refine wl_nil ?_
  refine px_then ?_
  refine wc_cond (lk rfl) (fun hc5 => ?_) (fun hc5 => ?_)
  · (exfalso; have h9 := hc5; first | (simp [eqPD] at h9; done) | (simp [eqPD] at h9; omega))
  refine wc_skip ?_
  refine px_then ?_
  refine wc_seq ?_
  refine wc_seq ?_
  refine wc_region ?_
  refine wl_v rfl (val_move (lk rfl)) ?_
  refine wl_v rfl (val_move (lk rfl)) ?_
  refine wl_v rfl (val_neq (lk rfl) (lk rfl)) ?_
  refine wl_nil ?_
  refine px_then ?_
  refine wc_cond (lk rfl) (fun hc6 => ?_) (fun hc6 => ?_)
  · (exfalso; have h9 := hc6; first | (simp [eqPD] at h9; done) | (simp [eqPD] at h9; omega))
  refine wc_skip ?_
  refine px_then ?_
  refine wc_seq ?_
  refine wc_region ?_
  refine wl_v rfl (val_loadB (.tail _ (.tail _ (.tail _ (.tail _ (.tail _ (.tail _ (.tail _ (.tail _ (.head _))))))))) (lk rfl) ag_24) ?_
  refine wl_callU (Ds := [ds44, (mkD (1 + tot []) ds29), (mkD 1 ds26), ds22, ds21]) 9 rfl ci_11 (args1 (lk rfl)) rfl (fun w1 hw => toBuf_c _ _ _ _ _ _ _ w1 (hA.hpT hw (m := 9) (Ds := [ds44, (mkD (1 + tot []) ds29), (mkD 1 ds26), ds22, ds21]) rfl rfl) (by omega)) (fun _ => rfl) ?_
  rintro ⟨g85, c85, ds85, sp85⟩ ⟨hp85, hl85, hc85⟩
  simp only at hp85 hl85 hc85
  have hq85 := plcap hp85 hl85
  refine wl_callU (Ds := [ds85, ds44, (mkD (1 + tot []) ds29), (mkD 1 ds26), ds22, ds21]) 10 rfl ci_17 (args1 (lk rfl)) rfl (fun w1 hw => Drain_c _ _ _ _ _ _ _ w1 (Pay.own hw (.head _) rfl (m := 10) (Ds := [ds85, ds44, (mkD (1 + tot []) ds29), (mkD 1 ds26), ds22, ds21]) rfl (j := 0) rfl hp85) (by omega)) (fun _ => rfl) ?_
  rintro ⟨g86, c86, ds86, sp86⟩ ⟨hp86, hl86, hc86⟩
  simp only at hp86 hl86 hc86
  have hq86 := plcap hp86 hl86
  refine wl_v rfl (val_move (lk rfl)) ?_
  refine wl_v rfl (val_extract (lk rfl) rfl) ?_
  refine wl_v rfl (val_extract (lk rfl) rfl) ?_
  refine wl_alloc zc_29 rfl fun b5 => ?_
  refine wl_storeB 0 rfl (lk rfl) (lk rfl) ag_29 rfl rfl ?_
  refine wl_v rfl (val_assign (lk rfl)) ?_
  refine wl_nil ?_
  refine px_then ?_
  refine wc_seq ?_
  refine wc_seq ?_
  refine wc_region ?_
  refine wl_v rfl (val_loadB (.head _) (lk rfl) ag_29) ?_
  refine wl_v rfl (val_loadB (.tail _ (.tail _ (.tail _ (.tail _ (.tail _ (.tail _ (.tail _ (.tail _ (.head _))))))))) (lk rfl) ag_29) ?_
  refine wl_call gd_none rfl ci_13 (args2 (lk rfl) (lk rfl)) (fun hG w1 hw => eqBuf_c q dr q dr [] [] none none 0 0 0 0 0 0 w1 Pay.nil Pay.nil (by decide)) ?_
  refine wl_v rfl (val_not (lk rfl)) ?_
  refine wl_v rfl (val_move (lk rfl)) ?_
  refine wl_val (gd_f rfl rfl rfl) rfl (val_move (lk rfl)) ?_
  refine wl_val (gd_f rfl rfl rfl) rfl (val_move (lk rfl)) ?_
  refine wl_call (gd_f rfl rfl rfl) rfl ci_18 (args2 (lkg rfl) (lkg rfl)) (fun hG w1 hw => eqPayS_c _ _ _ _ _ _ _ _ _ _ w1 (Pay.own hw (.tail _ (.head _)) rfl (m := 12) (Ds := [ds86, ds85, ds44, (mkD (1 + tot []) ds29), (mkD 1 ds26), ds22, ds21]) rfl (j := 0) rfl hp86) (Pay.own hw (.tail _ (.tail _ (.tail _ (.tail _ (.tail _ (.tail _ (.tail _ (.tail _ (.tail _ (.head _)))))))))) rfl (m := 12) (Ds := [ds86, ds85, ds44, (mkD (1 + tot []) ds29), (mkD 1 ds26), ds22, ds21]) rfl (j := 5) rfl hp22) (by omega)) ?_
  refine wl_val (gd_f rfl rfl rfl) rfl (val_not (lkg rfl)) ?_
  refine wl_v rfl (val_or (lk rfl) (lkg rfl)) ?_
  refine wl_nil ?_
  refine px_then ?_
  refine wc_cond (lk rfl) (fun hc7 => ?_) (fun hc7 => ?_)
  · (exfalso; have h9 := hc7; first | (simp [eqPD] at h9; done) | (simp [eqPD] at h9; omega))
  refine wc_skip ?_
  refine px_then ?_
  refine wc_seq ?_
  refine wc_region ?_
  refine wl_v rfl (val_assign lkc) ?_
  refine wl_nil ?_
  refine px_then ?_
  refine wc_seq ?_
  refine wc_region ?_
  refine wl_v rfl (val_loadB (.tail _ (.tail _ (.tail _ (.tail _ (.head _))))) (lk rfl) ag_29) ?_
  refine wl_v rfl (val_move (lk rfl)) ?_
  refine wl_call gd_none rfl ci_21 (args2 (lk rfl) (lk rfl)) (fun hG w1 hw => heldBuf_c q dr [] none 0 0 0 1 w1 Pay.nil (by decide) (by decide)) ?_
  refine wl_v rfl (val_assign (lk rfl)) ?_
  refine wl_nil ?_
  refine px_then ?_
  refine wc_seq ?_
  refine wc_seq ?_
  refine wc_region ?_
  refine wl_v rfl (val_move (lk rfl)) ?_
  refine wl_v rfl (val_lss (lk rfl) lkc) ?_
  refine wl_nil ?_
  refine px_then ?_
  refine wc_cond (lk rfl) (fun hc8 => ?_) (fun hc8 => ?_)
  · (exfalso; have h9 := hc8; first | (simp [eqPD] at h9; done) | (simp [eqPD] at h9; omega))
  refine wc_skip ?_
  refine px_then ?_
  refine wc_seq ?_
  refine wc_region ?_
  refine wl_v rfl (val_move (lk rfl)) ?_
  refine wl_v rfl (val_move (lk rfl)) ?_
  refine wl_call gd_none rfl ci_22 (args2 (lk rfl) (lk rfl)) (fun hG w1 hw => heldPayS_c _ _ _ _ _ (1 + tot []) w1 (Pay.own hw (.tail _ (.tail _ (.tail _ (.tail _ (.tail _ (.head _)))))) (inC_mkD _ _) (m := 12) (Ds := [ds86, ds85, ds44, (mkD (1 + tot []) ds29), (mkD 1 ds26), ds22, ds21]) rfl (j := 3) rfl (pays_mk (1 + tot []) hp29)) (by omega) (by first | omega | (simp only [tot]; omega))) ?_
  refine wl_v rfl (val_assign (lk rfl)) ?_
  refine wl_nil ?_
  refine px_then ?_
  refine wc_seq ?_
  refine wc_seq ?_
  refine wc_region ?_
  refine wl_v rfl (val_move (lk rfl)) ?_
  refine wl_v rfl (val_lss (lk rfl) lkc) ?_
  refine wl_nil ?_
  refine px_then ?_
  refine wc_cond (lk rfl) (fun hc9 => ?_) (fun hc9 => ?_)
  · (exfalso; have h9 := hc9; first | (simp [eqPD] at h9; done) | (simp [eqPD] at h9; omega))
  refine wc_skip ?_
  refine px_then ?_
  refine wc_seq ?_
  refine wc_seq ?_
  refine wc_region ?_
  refine wl_v rfl (val_move (lk rfl)) ?_
  refine wl_v rfl (val_move (lk rfl)) ?_
  refine wl_v rfl (val_neq (lk rfl) (lk rfl)) ?_
  refine wl_nil ?_
  refine px_then ?_
  refine wc_cond (lk rfl) (fun hc10 => ?_) (fun hc10 => ?_)
  · (exfalso; have h9 := hc10; first | (simp [eqPD] at h9; done) | (simp [eqPD] at h9; omega))
  refine wc_skip ?_
  refine px_then ?_
  refine wc_seq ?_
  refine wc_region ?_
  refine wl_v rfl (val_assign lkc) ?_
  refine wl_nil ?_
  refine px_then ?_
  refine wc_ret ?_
  refine fin1 rfl (res_tmp rfl) (fun w1 hw => ?_)
  exact ⟨rfl, (hw.drop (drop_new (m := 12) (Ds := [ds86, ds85, ds44, (mkD (1 + tot []) ds29), (mkD 1 ds26), ds22, ds21]) rfl rfl))⟩

theorem law_DequeueUpTo (q dr : Int) (ps : PS) (A : Option Addr) (b o c : Nat) (n : Int) (w : World) (hA : Pay w A b o ps) (hcap : ps.length ≤ c) (hc63 : c ≤ 9223372036854775807) (hcaps : ∀ k, k < ps.length → (nth [] ps k).length ≤ 9223372036854775807) :
    Calls Try.prog 6 #[.agg #[.int .i64 q, .slice A ps.length c, .int .i64 dr], .int .i64 n] w fun e w' => e = .returned (.bool true) ∧ HP w [] w' := by
  refine calls_entry [] _ Try.func6 rfl Try.ntmps6 (HP.refl w) (env2 rfl) ?_
  refine wc_seq ?_
  refine wc_region ?_
  refine wl_box (lk rfl) rfl fun b1 => ?_
  refine wl_v rfl (val_assign lkc) ?_
  refine wl_nil ?_
  refine px_then ?_
  refine wc_seq ?_
  refine wc_region ?_
  refine wl_v rfl (val_assign lkc) ?_
  refine wl_nil ?_
  refine px_then ?_
  refine wc_seq ?_
  refine wc_region ?_
  refine wl_v rfl (val_loadB (.head _) (lk rfl) ag_24) ?_
  refine wl_v rfl (val_move (lk rfl)) ?_
  refine wl_call gd_none rfl ci_9 (args2 (lk rfl) (lk rfl)) (fun hG w1 hw => szBuf_c _ _ ps _ _ _ _ 1048576 w1 (hA.hpT hw (m := 1) (Ds := []) rfl rfl) (by omega) hcaps (by decide)) ?_
  refine wl_v rfl (val_assign (lk rfl)) ?_
  refine wl_nil ?_
  refine px_then ?_
  refine wc_seq ?_
  refine wc_seq ?_
  refine wc_region ?_
  refine wl_v rfl (val_move (lk rfl)) ?_
  refine wl_v rfl (val_lss (lk rfl) lkc) ?_
  refine wl_nil ?_
  refine px_then ?_
  refine wc_cond (lk rfl) (fun hc0 => ?_) (fun hc0 => ?_)
  · refine wc_seq ?_
    refine wc_region ?_
    refine wl_v rfl (val_assign lkc) ?_
    refine wl_nil ?_
    refine px_then ?_
    refine wc_ret ?_
    refine px_then_ret ?_
    refine fin1 rfl (res_tmp rfl) (fun w1 hw => ?_)
    exact ⟨rfl, (hw.drop rfl)⟩
  have hb := szP_ok (of_decide_eq_false hc0)
  have hcl := cl_le n ps.length
  have h9t := tot_td ps (cl n ps.length)
  have ht1 : (ps.take (cl n ps.length)).length = cl n ps.length := by rw [List.length_take]; omega
  have ht2 : (ps.drop (cl n ps.length)).length = ps.length - cl n ps.length := List.length_drop
  refine wc_skip ?_
  refine px_then ?_
  refine wc_seq ?_
  refine wc_region ?_
  refine wl_v rfl (val_loadB (.head _) (lk rfl) ag_24) ?_
  refine wl_callU (Ds := []) 1 rfl ci_11 (args1 (lk rfl)) rfl (fun w1 hw => toBuf_c _ _ _ _ _ _ _ w1 (hA.hpT hw (m := 1) (Ds := []) rfl rfl) (by omega)) (fun _ => rfl) ?_
  rintro ⟨g23, c23, ds23, sp23⟩ ⟨hp23, hl23, hc23⟩
  simp only at hp23 hl23 hc23
  have hq23 := plcap hp23 hl23
  refine wl_v rfl (val_move (lk rfl)) ?_
  refine wl_callU (Ds := [ds23]) 2 rfl ci_23 (args2 (lk rfl) (lk rfl)) rfl (fun w1 hw => sDeq_c _ _ _ _ _ _ _ _ w1 (Pay.own hw (.head _) rfl (m := 2) (Ds := [ds23]) rfl (j := 0) rfl hp23) (by omega) (by omega)) (fun _ => rfl) ?_
  rintro ⟨⟨ga25, ca25, da25, sa25⟩, ⟨gb25, cb25, db25, sb25⟩⟩ ⟨⟨hpa25, hla25, hca25⟩, ⟨hpb25, hlb25, hcb25⟩⟩
  simp only at hpa25 hla25 hca25 hpb25 hlb25 hcb25
  refine wl_v rfl (val_move (lk rfl)) ?_
  refine wl_v rfl (val_extract (lk rfl) rfl) ?_
  refine wl_v rfl (val_extract (lk rfl) rfl) ?_
  refine wl_alloc zc_29 rfl fun b2 => ?_
  refine wl_v rfl (val_assign (lk rfl)) ?_
  refine wl_storeB 0 rfl (lk rfl) (lk rfl) ag_29 rfl rfl ?_
  refine wl_nil ?_
  refine px_then ?_
  refine wc_seq ?_
  refine wc_region ?_
  refine wl_v rfl (val_loadB (.tail _ (.tail _ (.tail _ (.tail _ (.head _))))) (lk rfl) ag_24) ?_
  refine wl_callU (Ds := [db25, da25, ds23]) 5 rfl ci_11 (args1 (lk rfl)) rfl (fun w1 hw => toBuf_c _ _ _ _ _ _ _ w1 (hA.hpT hw (m := 5) (Ds := [db25, da25, ds23]) rfl rfl) (by omega)) (fun _ => rfl) ?_
  rintro ⟨g29, c29, ds29, sp29⟩ ⟨hp29, hl29, hc29⟩
  simp only at hp29 hl29 hc29
  have hq29 := plcap hp29 hl29
  refine wl_alloc zc_29 rfl fun b3 => ?_
  refine wl_storeB 0 rfl (lk rfl) (lk rfl) ag_29 rfl rfl ?_
  refine wl_nil ?_
  refine px_then ?_
  refine wc_seq ?_
  refine wc_region ?_
  refine wl_v rfl (val_loadB (.head _) (lk rfl) ag_29) ?_
  refine wl_v rfl (val_move (lk rfl)) ?_
  refine wl_callU (Ds := [ds29, db25, da25, ds23]) 7 rfl ci_24 (args2 (lk rfl) (lk rfl)) rfl (fun w1 hw => Deq_c _ _ _ _ _ _ _ _ w1 (Pay.own hw (.tail _ (.head _)) rfl (m := 7) (Ds := [ds29, db25, da25, ds23]) rfl (j := 0) rfl hp29) (by omega) (by omega)) (fun _ => rfl) ?_
  rintro ⟨⟨ga33, ca33, da33, sa33⟩, ⟨gb33, cb33, db33, sb33⟩⟩ ⟨⟨hpa33, hla33, hca33⟩, ⟨hpb33, hlb33, hcb33⟩⟩
  simp only at hpa33 hla33 hca33 hpb33 hlb33 hcb33
  refine wl_v rfl (val_move (lk rfl)) ?_
  refine wl_v rfl (val_extract (lk rfl) rfl) ?_
  refine wl_v rfl (val_extract (lk rfl) rfl) ?_
  refine wl_alloc zc_29 rfl fun b4 => ?_
  refine wl_v rfl (val_assign (lk rfl)) ?_
  refine wl_storeB 0 rfl (lk rfl) (lk rfl) ag_29 rfl rfl ?_
  refine wl_nil ?_
  refine px_then ?_
  refine wc_seq ?_
  refine wc_seq ?_
  refine wc_region ?_
  refine wl_v rfl (val_move (lk rfl)) ?_
  refine wl_v rfl (val_move (lk rfl)) ?_
  refine wl_call gd_none rfl ci_18 (args2 (lk rfl) (lk rfl)) (fun hG w1 hw => eqPayS_c _ _ _ _ _ _ _ _ _ _ w1 (Pay.own hw (.tail _ (.tail _ (.head _))) rfl (m := 10) (Ds := [db33, da33, ds29, db25, da25, ds23]) rfl (j := 1) rfl hpa33) (Pay.own hw (.tail _ (.tail _ (.tail _ (.tail _ (.tail _ (.tail _ (.tail _ (.head _)))))))) rfl (m := 10) (Ds := [db33, da33, ds29, db25, da25, ds23]) rfl (j := 4) rfl hpa25) (by omega)) ?_
  refine wl_v rfl (val_not (lk rfl)) ?_
  refine wl_v rfl (val_move (lk rfl)) ?_
  refine wl_val (gd_f rfl rfl rfl) rfl (val_loadB (.head _) (lk rfl) ag_29) ?_
  refine wl_val (gd_f rfl rfl rfl) rfl (val_loadB (.tail _ (.tail _ (.tail _ (.tail _ (.tail _ (.head _)))))) (lk rfl) ag_29) ?_
  refine wl_call (gd_f rfl rfl rfl) rfl ci_13 (args2 (lkg rfl) (lkg rfl)) (fun hG w1 hw => eqBuf_c _ _ _ _ _ _ _ _ _ _ _ _ _ _ w1 (Pay.own hw (.tail _ (.head _)) rfl (m := 10) (Ds := [db33, da33, ds29, db25, da25, ds23]) rfl (j := 0) rfl hpb33) (Pay.own hw (.tail _ (.tail _ (.tail _ (.tail _ (.tail _ (.tail _ (.head _))))))) rfl (m := 10) (Ds := [db33, da33, ds29, db25, da25, ds23]) rfl (j := 3) rfl hpb25) (by omega)) ?_
  refine wl_val (gd_f rfl rfl rfl) rfl (val_not (lkg rfl)) ?_
  refine wl_v rfl (val_or (lk rfl) (lkg rfl)) ?_
  refine wl_nil ?_
  refine px_then ?_
  refine wc_cond (lk rfl) (fun hc1 => ?_) (fun hc1 => ?_)
  · (exfalso; have h9 := hc1; first | (simp [eqPD] at h9; done) | (simp [eqPD] at h9; omega))
  refine wc_skip ?_
  refine px_then ?_
  refine wc_seq ?_
  refine wc_seq ?_
  refine wc_region_a0 5 mo_ rfl ?_
  refine wa_take 0 rfl (by kernel_rfl) (by kernel_rfl) (by kernel_rfl) (by kernel_rfl) (fun _ h => h.maskG [true, true, true, true, true, true, true, true, true, true] [(true, db33), (true, da33), (true, ds29), (true, db25), (true, da25), (true, ds23)] rfl rfl) gd_none rfl (val_loadB (.tail _ (.tail _ (.tail _ (.head _)))) (lk rfl) ag_29) ?_
  refine wa_take 1 rfl (by kernel_rfl) (by kernel_rfl) (by kernel_rfl) (by kernel_rfl) (fun _ h => h.maskG [true, true, true, true, true, true, true, true, true, true] [(true, db33), (true, da33), (true, ds29), (true, db25), (true, da25), (true, ds23)] rfl rfl) gd_none rfl (val_loadB (.tail _ (.tail _ (.tail _ (.tail _ (.tail _ (.tail _ (.tail _ (.tail _ (.tail _ (.head _)))))))))) (lk rfl) ag_24) ?_
  refine wa_only 2 (by kernel_rfl) rfl ?_
  refine wl_callU (Ds := [db33, da33, ds29, db25, da25, ds23]) 10 rfl ci_11 (args1 (lk rfl)) rfl (fun w1 hw => toBuf_c _ _ _ _ _ _ _ w1 (hA.hpT hw (m := 10) (Ds := [db33, da33, ds29, db25, da25, ds23]) rfl rfl) (by omega)) (fun _ => rfl) ?_
  rintro ⟨g48, c48, ds48, sp48⟩ ⟨hp48, hl48, hc48⟩
  simp only at hp48 hl48 hc48
  have hq48 := plcap hp48 hl48
  refine wl_nil (px_qn (fun _ h => h.maskG [false, true, true, true, true, true, true, true, true, true, true] [(false, ds48), (true, db33), (true, da33), (true, ds29), (true, db25), (true, da25), (true, ds23)] rfl rfl) ?_)
  refine wa_only 3 (by kernel_rfl) rfl ?_
  refine wl_call gd_none rfl ci_13 (args2 (lk rfl) (lk rfl)) (fun hG w1 hw => eqBuf_c _ _ _ _ _ _ _ _ _ _ _ _ _ _ w1 (Pay.own hw (.tail _ (.tail _ (.tail _ (.tail _ (.tail _ (.head _)))))) rfl (m := 11) (Ds := [ds48, db33, da33, ds29, db25, da25, ds23]) rfl (j := 3) rfl hp29) (Pay.own hw (.head _) rfl (m := 11) (Ds := [ds48, db33, da33, ds29, db25, da25, ds23]) rfl (j := 0) rfl hp48) (by omega)) ?_
  refine wl_nil (px_qn (fun _ h => h.maskG [false, true, true, true, true, true, true, true, true, true, true] [(false, ds48), (true, db33), (true, da33), (true, ds29), (true, db25), (true, da25), (true, ds23)] rfl rfl) ?_)
  refine wa_take 4 rfl (by kernel_rfl) (by kernel_rfl) (by kernel_rfl) (by kernel_rfl) (fun _ h => h.maskG [false, true, true, true, true, true, true, true, true, true, true] [(false, ds48), (true, db33), (true, da33), (true, ds29), (true, db25), (true, da25), (true, ds23)] rfl rfl) gd_none rfl (val_not (lk rfl)) ?_
  refine wa_done (by kernel_rfl) ?_
  refine px_then ?_
  refine wc_cond (lk rfl) (fun hc2 => ?_) (fun hc2 => ?_)
  · (exfalso; have h9 := hc2; first | (simp [eqPD] at h9; done) | (simp [eqPD] at h9; omega))
  refine wc_skip ?_
  refine px_then ?_
  refine wc_seq ?_
  refine wc_region ?_
  refine wl_v rfl (val_assign lkc) ?_
  refine wl_nil ?_
  refine px_then ?_
  refine wc_seq ?_
  refine wc_region ?_
  refine wl_v rfl (val_loadB (.tail _ (.tail _ (.tail _ (.tail _ (.head _))))) (lk rfl) ag_29) ?_
  refine wl_v rfl (val_move (lk rfl)) ?_
  refine wl_callM (Ds := [ds48, db33, da33, ds29, db25, da25, ds23]) 11 3 rfl ci_19 (args2 (lk rfl) (lk rfl)) rfl rfl (fun _ _ => mkD_num _ _) (fun w1 hw => markBuf_c _ _ ds29 _ _ _ _ 1 w1 (Mark.of hw (.tail _ (.tail _ (.tail _ (.tail _ (.tail _ (.head _)))))) (m := 11) (Ds := [ds48, db33, da33, ds29, db25, da25, ds23]) rfl (j := 3) rfl) hp29 (by omega) (by first | omega | (simp only [tot]; omega))) ?_
  rintro ⟨⟩ -
  refine wl_v rfl (val_assign (lk rfl)) ?_
  refine wl_nil ?_
  refine px_then ?_
  refine wc_seq ?_
  refine wc_seq ?_
  refine wc_region ?_
  refine wl_v rfl (val_move (lk rfl)) ?_
  refine wl_v rfl (val_lss (lk rfl) lkc) ?_
  refine wl_v rfl (val_move (lk rfl)) ?_
  refine wl_val (gd_f rfl rfl rfl) rfl (val_move (lk rfl)) ?_
  refine wl_val (gd_f rfl rfl rfl) rfl (val_move (lk rfl)) ?_
  refine wl_call (gd_f rfl rfl rfl) rfl ci_18 (args2 (lkg rfl) (lkg rfl)) (fun hG w1 hw => eqPayS_c _ _ _ _ _ _ _ _ _ _ w1 (Pay.own hw (.tail _ (.tail _ (.tail _ (.head _)))) rfl (m := 11) (Ds := [ds48, db33, da33, (mkD 1 ds29), db25, da25, ds23]) rfl (j := 2) rfl hpa33) (Pay.own hw (.tail _ (.tail _ (.tail _ (.tail _ (.tail _ (.tail _ (.tail _ (.tail _ (.head _))))))))) rfl (m := 11) (Ds := [ds48, db33, da33, (mkD 1 ds29), db25, da25, ds23]) rfl (j := 5) rfl hpa25) (by omega)) ?_
  refine wl_val (gd_f rfl rfl rfl) rfl (val_not (lkg rfl)) ?_
  refine wl_v rfl (val_or (lk rfl) (lkg rfl)) ?_
  refine wl_v rfl (val_move (lk rfl)) ?_
  refine wl_val (gd_f rfl rfl rfl) rfl (val_loadB (.tail _ (.head _)) (lk rfl) ag_29) ?_
  refine wl_val (gd_f rfl rfl rfl) rfl (val_loadB (.tail _ (.tail _ (.tail _ (.tail _ (.tail _ (.tail _ (.head _))))))) (lk rfl) ag_29) ?_
  refine wl_call (gd_f rfl rfl rfl) rfl ci_13 (args2 (lkg rfl) (lkg rfl)) (fun hG w1 hw => eqBuf_c _ _ _ _ _ _ _ _ _ _ _ _ _ _ w1 (Pay.own hw (.tail _ (.tail _ (.head _))) rfl (m := 11) (Ds := [ds48, db33, da33, (mkD 1 ds29), db25, da25, ds23]) rfl (j := 1) rfl hpb33) (Pay.own hw (.tail _ (.tail _ (.tail _ (.tail _ (.tail _ (.tail _ (.tail _ (.head _)))))))) rfl (m := 11) (Ds := [ds48, db33, da33, (mkD 1 ds29), db25, da25, ds23]) rfl (j := 4) rfl hpb25) (by omega)) ?_
  refine wl_val (gd_f rfl rfl rfl) rfl (val_not (lkg rfl)) ?_
  refine wl_v rfl (val_or (lk rfl) (lkg rfl)) ?_
  refine wl_nil ?_
  refine px_then ?_
  refine wc_cond (lk rfl) (fun hc3 => ?_) (fun hc3 => ?_)
  · (exfalso; have h9 := hc3; first | (simp [eqPD] at h9; done) | (simp [eqPD] at h9; omega))
  refine wc_skip ?_
  refine px_then ?_
  refine wc_seq ?_
  refine wc_region ?_
  refine wl_v rfl (val_assign lkc) ?_
  refine wl_nil ?_
  refine px_then ?_
  refine wc_seq ?_
  refine wc_region ?_
  refine wl_v rfl (val_move (lk rfl)) ?_
  refine wl_v rfl (val_move (lk rfl)) ?_
  refine wl_callM (Ds := [ds48, db33, da33, (mkD 1 ds29), db25, da25, ds23]) 11 2 rfl ci_20 (args2 (lk rfl) (lk rfl)) rfl rfl (fun _ _ => mkD_num _ _) (fun w1 hw => markPayS_c da33 _ _ _ _ 1 w1 (Mark.of hw (.tail _ (.tail _ (.tail _ (.head _)))) (m := 11) (Ds := [ds48, db33, da33, (mkD 1 ds29), db25, da25, ds23]) rfl (j := 2) rfl) hpa33 (by omega) (by first | omega | (simp only [tot]; omega))) ?_
  rintro ⟨⟩ -
  refine wl_v rfl (val_assign (lk rfl)) ?_
  refine wl_nil ?_
  refine px_then ?_
  refine wc_seq ?_
  refine wc_region ?_
  refine wl_v rfl (val_loadB (.tail _ (.head _)) (lk rfl) ag_29) ?_
  refine wl_v rfl (val_move (lk rfl)) ?_
  refine wl_callM (Ds := [ds48, db33, (mkD 1 da33), (mkD 1 ds29), db25, da25, ds23]) 11 1 rfl ci_19 (args2 (lk rfl) (lk rfl)) rfl rfl (fun _ _ => mkD_num _ _) (fun w1 hw => markBuf_c _ _ db33 _ _ _ _ (1 + tot (ps.take (cl n ps.length))) w1 (Mark.of hw (.tail _ (.tail _ (.head _))) (m := 11) (Ds := [ds48, db33, (mkD 1 da33), (mkD 1 ds29), db25, da25, ds23]) rfl (j := 1) rfl) hpb33 (by omega) (by first | omega | (simp only [tot]; omega))) ?_
  rintro ⟨⟩ -
  refine wl_v rfl (val_assign (lk rfl)) ?_
  refine wl_nil ?_
  refine px_then ?_
  refine wc_seq ?_
  refine wc_region ?_
  refine wl_v rfl (val_assign lkc) ?_
  refine wl_nil ?_
  refine px_then ?_
  refine wc_seq ?_
  refine wc_region ?_
  refine wl_v rfl (val_move (lk rfl)) ?_
  refine wl_v rfl (val_move (lk rfl)) ?_
  refine wl_call gd_none rfl ci_22 (args2 (lk rfl) (lk rfl)) (fun hG w1 hw => heldPayS_c _ _ _ _ _ 1 w1 (Pay.own hw (.tail _ (.tail _ (.tail _ (.head _)))) (inC_mkD _ _) (m := 11) (Ds := [ds48, (mkD (1 + tot (ps.take (cl n ps.length))) db33), (mkD 1 da33), (mkD 1 ds29), db25, da25, ds23]) rfl (j := 2) rfl (pays_mk 1 hpa33)) (by omega) (by first | omega | (simp only [tot]; omega))) ?_
  refine wl_v rfl (val_assign (lk rfl)) ?_
  refine wl_nil ?_
  refine px_then ?_
  refine wc_seq ?_
  refine wc_seq ?_
  refine wc_region ?_
  refine wl_v rfl (val_move (lk rfl)) ?_
  refine wl_v rfl (val_lss (lk rfl) lkc) ?_
  refine wl_nil ?_
  refine px_then ?_
  refine wc_cond (lk rfl) (fun hc4 => ?_) (fun hc4 => ?_)
  · (exfalso; have h9 := hc4; first | (simp [eqPD] at h9; done) | (simp [eqPD] at h9; omega))
  refine wc_skip ?_
  refine px_then ?_
  refine wc_seq ?_
  refine wc_region ?_
  refine wl_v rfl (val_loadB (.tail _ (.head _)) (lk rfl) ag_29) ?_
  refine wl_v rfl (val_move (lk rfl)) ?_
  refine wl_call gd_none rfl ci_21 (args2 (lk rfl) (lk rfl)) (fun hG w1 hw => heldBuf_c _ _ _ _ _ _ _ (1 + tot (ps.take (cl n ps.length))) w1 (Pay.own hw (.tail _ (.tail _ (.head _))) (inC_mkD _ _) (m := 11) (Ds := [ds48, (mkD (1 + tot (ps.take (cl n ps.length))) db33), (mkD 1 da33), (mkD 1 ds29), db25, da25, ds23]) rfl (j := 1) rfl (pays_mk (1 + tot (ps.take (cl n ps.length))) hpb33)) (by omega) (by first | omega | (simp only [tot]; omega))) ?_
  refine wl_v rfl (val_assign (lk rfl)) ?_
  refine wl_nil ?_
  refine px_then ?_
  refine wc_seq ?_
  refine wc_seq ?_
  refine wc_region ?_
  refine wl_v rfl (val_move (lk rfl)) ?_
  refine wl_v rfl (val_lss (lk rfl) lkc) ?_
  refine wl_nil ?_
  refine px_then ?_
  refine wc_cond (lk rfl) (fun hc5 => ?_) (fun hc5 => ?_)
  · (exfalso; have h9 := hc5; first | (simp [eqPD] at h9; done) | (simp [eqPD] at h9; omega))
  refine wc_skip ?_
  refine px_then ?_
  refine wc_seq ?_
  refine wc_seq ?_
  refine wc_region ?_
  refine wl_v rfl (val_move (lk rfl)) ?_
  refine wl_v rfl (val_move (lk rfl)) ?_
  refine wl_v rfl (val_neq (lk rfl) (lk rfl)) ?_
  refine wl_nil ?_
  refine px_then ?_
  refine wc_cond (lk rfl) (fun hc6 => ?_) (fun hc6 => ?_)
  · (exfalso; have h9 := hc6; first | (simp [eqPD] at h9; done) | (simp [eqPD] at h9; omega))
  refine wc_skip ?_
  refine px_then ?_
  refine wc_seq ?_
  refine wc_region ?_
  refine wl_v rfl (val_loadB (.tail _ (.tail _ (.tail _ (.tail _ (.tail _ (.tail _ (.tail _ (.tail _ (.tail _ (.tail _ (.head _))))))))))) (lk rfl) ag_24) ?_
  refine wl_callU (Ds := [ds48, (mkD (1 + tot (ps.take (cl n ps.length))) db33), (mkD 1 da33), (mkD 1 ds29), db25, da25, ds23]) 11 rfl ci_11 (args1 (lk rfl)) rfl (fun w1 hw => toBuf_c _ _ _ _ _ _ _ w1 (hA.hpT hw (m := 11) (Ds := [ds48, (mkD (1 + tot (ps.take (cl n ps.length))) db33), (mkD 1 da33), (mkD 1 ds29), db25, da25, ds23]) rfl rfl) (by omega)) (fun _ => rfl) ?_
  rintro ⟨g89, c89, ds89, sp89⟩ ⟨hp89, hl89, hc89⟩
  simp only at hp89 hl89 hc89
  have hq89 := plcap hp89 hl89
  refine wl_v rfl (val_move (lk rfl)) ?_
  refine wl_callU (Ds := [ds89, ds48, (mkD (1 + tot (ps.take (cl n ps.length))) db33), (mkD 1 da33), (mkD 1 ds29), db25, da25, ds23]) 12 rfl ci_24 (args2 (lk rfl) (lk rfl)) rfl (fun w1 hw => Deq_c _ _ _ _ _ _ _ _ w1 (Pay.own hw (.head _) rfl (m := 12) (Ds := [ds89, ds48, (mkD (1 + tot (ps.take (cl n ps.length))) db33), (mkD 1 da33), (mkD 1 ds29), db25, da25, ds23]) rfl (j := 0) rfl hp89) (by omega) (by omega)) (fun _ => rfl) ?_
  rintro ⟨⟨ga91, ca91, da91, sa91⟩, ⟨gb91, cb91, db91, sb91⟩⟩ ⟨⟨hpa91, hla91, hca91⟩, ⟨hpb91, hlb91, hcb91⟩⟩
  simp only at hpa91 hla91 hca91 hpb91 hlb91 hcb91
  refine wl_v rfl (val_move (lk rfl)) ?_
  refine wl_v rfl (val_extract (lk rfl) rfl) ?_
  refine wl_v rfl (val_extract (lk rfl) rfl) ?_
  refine wl_alloc zc_29 rfl fun b5 => ?_
  refine wl_v rfl (val_assign (lk rfl)) ?_
  refine wl_storeB 0 rfl (lk rfl) (lk rfl) ag_29 rfl rfl ?_
  refine wl_nil ?_
  refine px_then ?_
  refine wc_seq ?_
  refine wc_seq ?_
  refine wc_region ?_
  refine wl_v rfl (val_move (lk rfl)) ?_
  refine wl_v rfl (val_move (lk rfl)) ?_
  refine wl_call gd_none rfl ci_18 (args2 (lk rfl) (lk rfl)) (fun hG w1 hw => eqPayS_c _ _ _ _ _ _ _ _ _ _ w1 (Pay.own hw (.tail _ (.tail _ (.head _))) rfl (m := 15) (Ds := [db91, da91, ds89, ds48, (mkD (1 + tot (ps.take (cl n ps.length))) db33), (mkD 1 da33), (mkD 1 ds29), db25, da25, ds23]) rfl (j := 1) rfl hpa91) (Pay.own hw (.tail _ (.tail _ (.tail _ (.tail _ (.tail _ (.tail _ (.tail _ (.tail _ (.tail _ (.tail _ (.tail _ (.tail _ (.head _))))))))))))) rfl (m := 15) (Ds := [db91, da91, ds89, ds48, (mkD (1 + tot (ps.take (cl n ps.length))) db33), (mkD 1 da33), (mkD 1 ds29), db25, da25, ds23]) rfl (j := 8) rfl hpa25) (by omega)) ?_
  refine wl_v rfl (val_not (lk rfl)) ?_
  refine wl_v rfl (val_move (lk rfl)) ?_
  refine wl_val (gd_f rfl rfl rfl) rfl (val_loadB (.head _) (lk rfl) ag_29) ?_
  refine wl_val (gd_f rfl rfl rfl) rfl (val_loadB (.tail _ (.tail _ (.tail _ (.tail _ (.tail _ (.tail _ (.tail _ (.tail _ (.tail _ (.tail _ (.head _))))))))))) (lk rfl) ag_29) ?_
  refine wl_call (gd_f rfl rfl rfl) rfl ci_13 (args2 (lkg rfl) (lkg rfl)) (fun hG w1 hw => eqBuf_c _ _ _ _ _ _ _ _ _ _ _ _ _ _ w1 (Pay.own hw (.tail _ (.head _)) rfl (m := 15) (Ds := [db91, da91, ds89, ds48, (mkD (1 + tot (ps.take (cl n ps.length))) db33), (mkD 1 da33), (mkD 1 ds29), db25, da25, ds23]) rfl (j := 0) rfl hpb91) (Pay.own hw (.tail _ (.tail _ (.tail _ (.tail _ (.tail _ (.tail _ (.tail _ (.tail _ (.tail _ (.tail _ (.tail _ (.head _)))))))))))) rfl (m := 15) (Ds := [db91, da91, ds89, ds48, (mkD (1 + tot (ps.take (cl n ps.length))) db33), (mkD 1 da33), (mkD 1 ds29), db25, da25, ds23]) rfl (j := 7) rfl hpb25) (by omega)) ?_
  refine wl_val (gd_f rfl rfl rfl) rfl (val_not (lkg rfl)) ?_
  refine wl_v rfl (val_or (lk rfl) (lkg rfl)) ?_
  refine wl_nil ?_
  refine px_then ?_
  refine wc_cond (lk rfl) (fun hc7 => ?_) (fun hc7 => ?_)
  · (exfalso; have h9 := hc7; first | (simp [eqPD] at h9; done) | (simp [eqPD] at h9; omega))
  refine wc_skip ?_
  refine px_then ?_
  refine wc_seq ?_
  refine wc_region ?_
  refine wl_v rfl (val_assign lkc) ?_
  refine wl_nil ?_
  refine px_then ?_
  refine wc_seq ?_
  refine wc_region ?_
  refine wl_v rfl (val_move (lk rfl)) ?_
  refine wl_v rfl (val_move (lk rfl)) ?_
  refine wl_call gd_none rfl ci_22 (args2 (lk rfl) (lk rfl)) (fun hG w1 hw => heldPayS_c _ _ _ _ _ 1 w1 (Pay.own hw (.tail _ (.tail _ (.tail _ (.tail _ (.tail _ (.tail _ (.tail _ (.head _)))))))) (inC_mkD _ _) (m := 15) (Ds := [db91, da91, ds89, ds48, (mkD (1 + tot (ps.take (cl n ps.length))) db33), (mkD 1 da33), (mkD 1 ds29), db25, da25, ds23]) rfl (j := 5) rfl (pays_mk 1 hpa33)) (by omega) (by first | omega | (simp only [tot]; omega))) ?_
  refine wl_v rfl (val_assign (lk rfl)) ?_
  refine wl_nil ?_
  refine px_then ?_
  refine wc_seq ?_
  refine wc_seq ?_
  refine wc_region ?_
  refine wl_v rfl (val_move (lk rfl)) ?_
  refine wl_v rfl (val_lss (lk rfl) lkc) ?_
  refine wl_nil ?_
  refine px_then ?_
  refine wc_cond (lk rfl) (fun hc8 => ?_) (fun hc8 => ?_)
  · (exfalso; have h9 := hc8; first | (simp [eqPD] at h9; done) | (simp [eqPD] at h9; omega))
  refine wc_skip ?_
  refine px_then ?_
  refine wc_seq ?_
  refine wc_region ?_
  refine wl_v rfl (val_loadB (.tail _ (.tail _ (.tail _ (.tail _ (.tail _ (.head _)))))) (lk rfl) ag_29) ?_
  refine wl_v rfl (val_move (lk rfl)) ?_
  refine wl_call gd_none rfl ci_21 (args2 (lk rfl) (lk rfl)) (fun hG w1 hw => heldBuf_c _ _ _ _ _ _ _ (1 + tot (ps.take (cl n ps.length))) w1 (Pay.own hw (.tail _ (.tail _ (.tail _ (.tail _ (.tail _ (.tail _ (.head _))))))) (inC_mkD _ _) (m := 15) (Ds := [db91, da91, ds89, ds48, (mkD (1 + tot (ps.take (cl n ps.length))) db33), (mkD 1 da33), (mkD 1 ds29), db25, da25, ds23]) rfl (j := 4) rfl (pays_mk (1 + tot (ps.take (cl n ps.length))) hpb33)) (by omega) (by first | omega | (simp only [tot]; omega))) ?_
  refine wl_v rfl (val_assign (lk rfl)) ?_
  refine wl_nil ?_
  refine px_then ?_
  refine wc_seq ?_
  refine wc_seq ?_
  refine wc_region ?_
  refine wl_v rfl (val_move (lk rfl)) ?_
  refine wl_v rfl (val_lss (lk rfl) lkc) ?_
  refine wl_nil ?_
  refine px_then ?_
  refine wc_cond (lk rfl) (fun hc9 => ?_) (fun hc9 => ?_)
  · (exfalso; have h9 := hc9; first | (simp [eqPD] at h9; done) | (simp [eqPD] at h9; omega))
  refine wc_skip ?_
  refine px_then ?_
  refine wc_seq ?_
  refine wc_seq ?_
  refine wc_region ?_
  refine wl_v rfl (val_move (lk rfl)) ?_
  refine wl_v rfl (val_move (lk rfl)) ?_
  refine wl_v rfl (val_neq (lk rfl) (lk rfl)) ?_
  refine wl_nil ?_
  refine px_then ?_
  refine wc_cond (lk rfl) (fun hc10 => ?_) (fun hc10 => ?_)
  · (exfalso; have h9 := hc10; first | (simp [eqPD] at h9; done) | (simp [eqPD] at h9; omega))
  refine wc_skip ?_
  refine px_then ?_
  refine wc_seq ?_
  refine wc_region ?_
  refine wl_v rfl (val_assign lkc) ?_
  refine wl_nil ?_
  refine px_then ?_
  refine wc_ret ?_
  refine fin1 rfl (res_tmp rfl) (fun w1 hw => ?_)
  exact ⟨rfl, (hw.drop (drop_new (m := 15) (Ds := [db91, da91, ds89, ds48, (mkD (1 + tot (ps.take (cl n ps.length))) db33), (mkD 1 da33), (mkD 1 ds29), db25, da25, ds23]) rfl rfl))⟩

end Go.Proofs.Ytfinobpodmdkgaa
