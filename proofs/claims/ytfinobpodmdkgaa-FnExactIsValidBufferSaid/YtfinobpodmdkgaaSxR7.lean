/- Paging buffers: the exact laws, walked. -/
import Derived.Test.YtfinobpodmdkgaaSxQ
namespace Go.Proofs.Ytfinobpodmdkgaa
open Go.RowKit


theorem eqPS (ps : PS) : eqRows eqB ps ps = true := eqRows_refl eqB_refl ps

theorem law_BufferedBytes (q dr : Int) (ps : PS) (A : Option Addr) (b o c : Nat) (w : World) (hA : Pay w A b o ps) (hcap : ps.length ≤ c) (hc63 : c ≤ 9223372036854775807) (hcaps : ∀ k, k < ps.length → (nth [] ps k).length ≤ 9223372036854775807) :
    Calls Try.prog 3 #[.agg #[.int .i64 q, .slice A ps.length c, .int .i64 dr]] w fun e w' => e = .returned (.bool true) ∧ HP w [] w' := by
  refine calls_entry [] _ Try.func3 rfl Try.ntmps3 (HP.refl w) (env1 rfl) ?_
  refine wc_seq ?_
  refine wc_region ?_
  refine wl_box (lk rfl) rfl fun b1 => ?_
  refine wl_v rfl (val_assign lkc) ?_
  refine wl_nil ?_
  refine px_then ?_
  refine wc_seq ?_
  refine wc_region ?_
  refine wl_v rfl (val_assign lkc) ?_
  refine wl_nil ?_
  refine px_then ?_
  refine wc_seq ?_
  refine wc_region ?_
  refine wl_v rfl (val_loadB (.head _) (lk rfl) ag_24) ?_
  refine wl_v rfl (val_move (lk rfl)) ?_
  refine wl_call gd_none rfl ci_9 (args2 (lk rfl) (lk rfl)) (fun hG w1 hw => szBuf_c _ _ ps _ _ _ _ 1048576 w1 (hA.hpT hw (m := 1) (Ds := []) rfl rfl) (by omega) hcaps (by decide)) ?_
  refine wl_v rfl (val_assign (lk rfl)) ?_
  refine wl_nil ?_
  refine px_then ?_
  refine wc_seq ?_
  refine wc_seq ?_
  refine wc_region ?_
  refine wl_v rfl (val_move (lk rfl)) ?_
  refine wl_v rfl (val_lss (lk rfl) lkc) ?_
  refine wl_nil ?_
  refine px_then ?_
  refine wc_cond (lk rfl) (fun hc0 => ?_) (fun hc0 => ?_)
  · refine wc_seq ?_
    refine wc_region ?_
    refine wl_v rfl (val_assign lkc) ?_
    refine wl_nil ?_
    refine px_then ?_
    refine wc_ret ?_
    refine px_then_ret ?_
    refine fin1 rfl (res_tmp rfl) (fun w1 hw => ?_)
    exact ⟨rfl, (hw.drop rfl)⟩
  have hb := szP_ok (of_decide_eq_false hc0)
  refine wc_skip ?_
  refine px_then ?_
  refine wc_seq ?_
  refine wc_region ?_
  refine wl_v rfl (val_loadB (.head _) (lk rfl) ag_24) ?_
  refine wl_callU (Ds := []) 1 rfl ci_11 (args1 (lk rfl)) rfl (fun w1 hw => toBuf_c _ _ _ _ _ _ _ w1 (hA.hpT hw (m := 1) (Ds := []) rfl rfl) (by omega)) (fun _ => rfl) ?_
  rintro ⟨g13, c13, ds13, sp13⟩ ⟨hp13, hl13, hc13⟩
  simp only at hp13 hl13 hc13
  have hq13 := plcap hp13 hl13
  refine wl_call gd_none rfl ci_10 (args1 (lk rfl)) (fun hG w1 hw => sBytes_c _ _ _ _ _ _ _ w1 (Pay.own hw (.head _) rfl (m := 2) (Ds := [ds13]) rfl (j := 0) rfl hp13) (by omega)) ?_
  refine wl_v rfl (val_assign (lk rfl)) ?_
  refine wl_nil ?_
  refine px_then ?_
  refine wc_seq ?_
  refine wc_region ?_
  refine wl_v rfl (val_loadB (.tail _ (.head _)) (lk rfl) ag_24) ?_
  refine wl_callU (Ds := [ds13]) 2 rfl ci_11 (args1 (lk rfl)) rfl (fun w1 hw => toBuf_c _ _ _ _ _ _ _ w1 (hA.hpT hw (m := 2) (Ds := [ds13]) rfl rfl) (by omega)) (fun _ => rfl) ?_
  rintro ⟨g16, c16, ds16, sp16⟩ ⟨hp16, hl16, hc16⟩
  simp only at hp16 hl16 hc16
  have hq16 := plcap hp16 hl16
  refine wl_alloc zc_29 rfl fun b2 => ?_
  refine wl_storeB 0 rfl (lk rfl) (lk rfl) ag_29 rfl rfl ?_
  refine wl_nil ?_
  refine px_then ?_
  refine wc_seq ?_
  refine wc_region ?_
  refine wl_v rfl (val_loadB (.head _) (lk rfl) ag_29) ?_
  refine wl_call gd_none rfl ci_12 (args1 (lk rfl)) (fun hG w1 hw => Bytes_c _ _ _ _ _ _ _ w1 (Pay.own hw (.tail _ (.head _)) rfl (m := 4) (Ds := [ds16, ds13]) rfl (j := 0) rfl hp16) (by omega)) ?_
  refine wl_v rfl (val_assign (lk rfl)) ?_
  refine wl_nil ?_
  refine px_then ?_
  refine wc_seq ?_
  refine wc_seq ?_
  refine wc_region ?_
  refine wl_v rfl (val_move (lk rfl)) ?_
  refine wl_v rfl (val_move (lk rfl)) ?_
  refine wl_v rfl (val_neq (lk rfl) (lk rfl)) ?_
  refine wl_nil ?_
  refine px_then ?_
  refine wc_cond (lk rfl) (fun hc1 => ?_) (fun hc1 => ?_)
  · (exfalso; have h9 := hc1; simp [eqPS] at h9)
  refine wc_skip ?_
  refine px_then ?_
  refine wc_seq ?_
  refine wc_seq ?_
  refine wc_region_a0 5 mo_ rfl ?_
  refine wa_take 0 rfl (by kernel_rfl) (by kernel_rfl) (by kernel_rfl) (by kernel_rfl) (fun _ h => h.maskG [true, true, true, true] [(true, ds16), (true, ds13)] rfl rfl) gd_none rfl (val_loadB (.head _) (lk rfl) ag_29) ?_
  refine wa_take 1 rfl (by kernel_rfl) (by kernel_rfl) (by kernel_rfl) (by kernel_rfl) (fun _ h => h.maskG [true, true, true, true] [(true, ds16), (true, ds13)] rfl rfl) gd_none rfl (val_loadB (.tail _ (.tail _ (.tail _ (.head _)))) (lk rfl) ag_24) ?_
  refine wa_only 2 (by kernel_rfl) rfl ?_
  refine wl_callU (Ds := [ds16, ds13]) 4 rfl ci_11 (args1 (lk rfl)) rfl (fun w1 hw => toBuf_c _ _ _ _ _ _ _ w1 (hA.hpT hw (m := 4) (Ds := [ds16, ds13]) rfl rfl) (by omega)) (fun _ => rfl) ?_
  rintro ⟨g24, c24, ds24, sp24⟩ ⟨hp24, hl24, hc24⟩
  simp only at hp24 hl24 hc24
  have hq24 := plcap hp24 hl24
  refine wl_nil (px_qn (fun _ h => h.maskG [false, true, true, true, true] [(false, ds24), (true, ds16), (true, ds13)] rfl rfl) ?_)
  refine wa_only 3 (by kernel_rfl) rfl ?_
  refine wl_call gd_none rfl ci_13 (args2 (lk rfl) (lk rfl)) (fun hG w1 hw => eqBuf_c _ _ _ _ _ _ _ _ _ _ _ _ _ _ w1 (Pay.own hw (.tail _ (.tail _ (.head _))) rfl (m := 5) (Ds := [ds24, ds16, ds13]) rfl (j := 1) rfl hp16) (Pay.own hw (.head _) rfl (m := 5) (Ds := [ds24, ds16, ds13]) rfl (j := 0) rfl hp24) (by omega)) ?_
  refine wl_nil (px_qn (fun _ h => h.maskG [false, true, true, true, true] [(false, ds24), (true, ds16), (true, ds13)] rfl rfl) ?_)
  refine wa_take 4 rfl (by kernel_rfl) (by kernel_rfl) (by kernel_rfl) (by kernel_rfl) (fun _ h => h.maskG [false, true, true, true, true] [(false, ds24), (true, ds16), (true, ds13)] rfl rfl) gd_none rfl (val_not (lk rfl)) ?_
  refine wa_done (by kernel_rfl) ?_
  refine px_then ?_
  refine wc_cond (lk rfl) (fun hc2 => ?_) (fun hc2 => ?_)
  · (exfalso; have h9 := hc2; simp [eqPS] at h9)
  refine wc_skip ?_
  refine px_then ?_
  refine wc_seq ?_
  refine wc_region ?_
  refine wl_v rfl (val_assign lkc) ?_
  refine wl_nil ?_
  refine px_then ?_
  refine wc_ret ?_
  refine fin1 rfl (res_tmp rfl) (fun w1 hw => ?_)
  exact ⟨rfl, (hw.drop (drop_new (m := 5) (Ds := [ds24, ds16, ds13]) rfl rfl))⟩

theorem law_IsValidBuffer (q dr : Int) (ps : PS) (A : Option Addr) (b o c : Nat) (w : World) (hA : Pay w A b o ps) (hcap : ps.length ≤ c) (hc63 : c ≤ 9223372036854775807) (hcaps : ∀ k, k < ps.length → (nth [] ps k).length ≤ 9223372036854775807) :
    Calls Try.prog 4 #[.agg #[.int .i64 q, .slice A ps.length c, .int .i64 dr]] w fun e w' => e = .returned (.bool true) ∧ HP w [] w' := by
  refine calls_entry [] _ Try.func4 rfl Try.ntmps4 (HP.refl w) (env1 rfl) ?_
  refine wc_seq ?_
  refine wc_region ?_
  refine wl_box (lk rfl) rfl fun b1 => ?_
  refine wl_v rfl (val_assign lkc) ?_
  refine wl_nil ?_
  refine px_then ?_
  refine wc_seq ?_
  refine wc_region ?_
  refine wl_v rfl (val_assign lkc) ?_
  refine wl_nil ?_
  refine px_then ?_
  refine wc_seq ?_
  refine wc_region ?_
  refine wl_v rfl (val_loadB (.head _) (lk rfl) ag_24) ?_
  refine wl_v rfl (val_move (lk rfl)) ?_
  refine wl_call gd_none rfl ci_9 (args2 (lk rfl) (lk rfl)) (fun hG w1 hw => szBuf_c _ _ ps _ _ _ _ 1048576 w1 (hA.hpT hw (m := 1) (Ds := []) rfl rfl) (by omega) hcaps (by decide)) ?_
  refine wl_v rfl (val_assign (lk rfl)) ?_
  refine wl_nil ?_
  refine px_then ?_
  refine wc_seq ?_
  refine wc_seq ?_
  refine wc_region ?_
  refine wl_v rfl (val_move (lk rfl)) ?_
  refine wl_v rfl (val_lss (lk rfl) lkc) ?_
  refine wl_nil ?_
  refine px_then ?_
  refine wc_cond (lk rfl) (fun hc0 => ?_) (fun hc0 => ?_)
  · refine wc_seq ?_
    refine wc_region ?_
    refine wl_v rfl (val_assign lkc) ?_
    refine wl_nil ?_
    refine px_then ?_
    refine wc_ret ?_
    refine px_then_ret ?_
    refine fin1 rfl (res_tmp rfl) (fun w1 hw => ?_)
    exact ⟨rfl, (hw.drop rfl)⟩
  have hb := szP_ok (of_decide_eq_false hc0)
  refine wc_skip ?_
  refine px_then ?_
  refine wc_seq ?_
  refine wc_region ?_
  refine wl_v rfl (val_loadB (.head _) (lk rfl) ag_24) ?_
  refine wl_callU (Ds := []) 1 rfl ci_11 (args1 (lk rfl)) rfl (fun w1 hw => toBuf_c _ _ _ _ _ _ _ w1 (hA.hpT hw (m := 1) (Ds := []) rfl rfl) (by omega)) (fun _ => rfl) ?_
  rintro ⟨g13, c13, ds13, sp13⟩ ⟨hp13, hl13, hc13⟩
  simp only at hp13 hl13 hc13
  have hq13 := plcap hp13 hl13
  refine wl_call gd_none rfl ci_14 (args1 (lk rfl)) (fun hG w1 hw => sValid_c _ _ _ _ _ _ _ w1 (Pay.own hw (.head _) rfl (m := 2) (Ds := [ds13]) rfl (j := 0) rfl hp13) (by omega)) ?_
  refine wl_v rfl (val_assign (lk rfl)) ?_
  refine wl_nil ?_
  refine px_then ?_
  refine wc_seq ?_
  refine wc_region ?_
  refine wl_v rfl (val_loadB (.tail _ (.head _)) (lk rfl) ag_24) ?_
  refine wl_callU (Ds := [ds13]) 2 rfl ci_11 (args1 (lk rfl)) rfl (fun w1 hw => toBuf_c _ _ _ _ _ _ _ w1 (hA.hpT hw (m := 2) (Ds := [ds13]) rfl rfl) (by omega)) (fun _ => rfl) ?_
  rintro ⟨g16, c16, ds16, sp16⟩ ⟨hp16, hl16, hc16⟩
  simp only at hp16 hl16 hc16
  have hq16 := plcap hp16 hl16
  refine wl_alloc zc_29 rfl fun b2 => ?_
  refine wl_storeB 0 rfl (lk rfl) (lk rfl) ag_29 rfl rfl ?_
  refine wl_nil ?_
  refine px_then ?_
  refine wc_seq ?_
  refine wc_region ?_
  refine wl_v rfl (val_loadB (.head _) (lk rfl) ag_29) ?_
  refine wl_call gd_none rfl ci_15 (args1 (lk rfl)) (fun hG w1 hw => Valid_c _ _ _ _ _ _ _ w1 (Pay.own hw (.tail _ (.head _)) rfl (m := 4) (Ds := [ds16, ds13]) rfl (j := 0) rfl hp16) (by omega)) ?_
  refine wl_v rfl (val_assign (lk rfl)) ?_
  refine wl_nil ?_
  refine px_then ?_
  refine wc_seq ?_
  refine wc_seq ?_
  refine wc_region ?_
  refine wl_v rfl (val_move (lk rfl)) ?_
  refine wl_v rfl (val_move (lk rfl)) ?_
  refine wl_v rfl (val_neqB Try.underlying4 (lk rfl) (lk rfl)) ?_
  refine wl_nil ?_
  refine px_then ?_
  refine wc_cond (lk rfl) (fun hc1 => ?_) (fun hc1 => ?_)
  · (exfalso; have h9 := hc1; simp [eqPS] at h9)
  refine wc_skip ?_
  refine px_then ?_
  refine wc_seq ?_
  refine wc_seq ?_
  refine wc_region_a0 5 mo_ rfl ?_
  refine wa_take 0 rfl (by kernel_rfl) (by kernel_rfl) (by kernel_rfl) (by kernel_rfl) (fun _ h => h.maskG [true, true, true, true] [(true, ds16), (true, ds13)] rfl rfl) gd_none rfl (val_loadB (.head _) (lk rfl) ag_29) ?_
  refine wa_take 1 rfl (by kernel_rfl) (by kernel_rfl) (by kernel_rfl) (by kernel_rfl) (fun _ h => h.maskG [true, true, true, true] [(true, ds16), (true, ds13)] rfl rfl) gd_none rfl (val_loadB (.tail _ (.tail _ (.tail _ (.head _)))) (lk rfl) ag_24) ?_
  refine wa_only 2 (by kernel_rfl) rfl ?_
  refine wl_callU (Ds := [ds16, ds13]) 4 rfl ci_11 (args1 (lk rfl)) rfl (fun w1 hw => toBuf_c _ _ _ _ _ _ _ w1 (hA.hpT hw (m := 4) (Ds := [ds16, ds13]) rfl rfl) (by omega)) (fun _ => rfl) ?_
  rintro ⟨g24, c24, ds24, sp24⟩ ⟨hp24, hl24, hc24⟩
  simp only at hp24 hl24 hc24
  have hq24 := plcap hp24 hl24
  refine wl_nil (px_qn (fun _ h => h.maskG [false, true, true, true, true] [(false, ds24), (true, ds16), (true, ds13)] rfl rfl) ?_)
  refine wa_only 3 (by kernel_rfl) rfl ?_
  refine wl_call gd_none rfl ci_13 (args2 (lk rfl) (lk rfl)) (fun hG w1 hw => eqBuf_c _ _ _ _ _ _ _ _ _ _ _ _ _ _ w1 (Pay.own hw (.tail _ (.tail _ (.head _))) rfl (m := 5) (Ds := [ds24, ds16, ds13]) rfl (j := 1) rfl hp16) (Pay.own hw (.head _) rfl (m := 5) (Ds := [ds24, ds16, ds13]) rfl (j := 0) rfl hp24) (by omega)) ?_
  refine wl_nil (px_qn (fun _ h => h.maskG [false, true, true, true, true] [(false, ds24), (true, ds16), (true, ds13)] rfl rfl) ?_)
  refine wa_take 4 rfl (by kernel_rfl) (by kernel_rfl) (by kernel_rfl) (by kernel_rfl) (fun _ h => h.maskG [false, true, true, true, true] [(false, ds24), (true, ds16), (true, ds13)] rfl rfl) gd_none rfl (val_not (lk rfl)) ?_
  refine wa_done (by kernel_rfl) ?_
  refine px_then ?_
  refine wc_cond (lk rfl) (fun hc2 => ?_) (fun hc2 => ?_)
  · (exfalso; have h9 := hc2; simp [eqPS] at h9)
  refine wc_skip ?_
  refine px_then ?_
  refine wc_seq ?_
  refine wc_region ?_
  refine wl_v rfl (val_assign lkc) ?_
  refine wl_nil ?_
  refine px_then ?_
  refine wc_ret ?_
  refine fin1 rfl (res_tmp rfl) (fun w1 hw => ?_)
  exact ⟨rfl, (hw.drop (drop_new (m := 5) (Ds := [ds24, ds16, ds13]) rfl rfl))⟩

end Go.Proofs.Ytfinobpodmdkgaa
