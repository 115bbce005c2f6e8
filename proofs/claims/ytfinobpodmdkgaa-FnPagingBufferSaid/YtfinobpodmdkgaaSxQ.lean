/- Paging buffers: putting in, walked. -/
import Derived.Test.YtfinobpodmdkgaaSxZ
namespace Go.Proofs.Ytfinobpodmdkgaa
open Go.RowKit


def enq (q : Int) (ps : PS) (dr : Int) (xs : List Int) : PS × Int := if okBuf q ps dr && decide (xs.length ≤ 60) then if (ps.length : Int) < q then (ps ++ [xs], dr) else (ps, IntKind.i64.wrap (dr + 1)) else (ps, dr)
theorem enq_no {q dr : Int} {ps : PS} {xs : List Int} (h : (!okBuf q ps dr || decide ((60 : Int) < (xs.length : Nat))) = true) : enq q ps dr xs = (ps, dr) := by
  unfold enq
  rw [if_neg]
  intro h2
  rw [Bool.and_eq_true] at h2
  have h3 := of_decide_eq_true h2.2
  rw [h2.1] at h
  simp at h
  omega
theorem enq_yes {q dr : Int} {ps : PS} {xs : List Int} (h : (!okBuf q ps dr || decide ((60 : Int) < (xs.length : Nat))) = false) : (okBuf q ps dr && decide (xs.length ≤ 60)) = true := by
  rw [Bool.or_eq_false_iff] at h
  have h3 := of_decide_eq_false h.2
  rw [Bool.and_eq_true]
  exact ⟨by simpa using h.1, decide_eq_true (by omega)⟩
theorem enq_in {q dr : Int} {ps : PS} {xs : List Int} (h : (!okBuf q ps dr || decide ((60 : Int) < (xs.length : Nat))) = false) (h2 : (ps.length : Int) < q) : enq q ps dr xs = (ps ++ [xs], dr) := by
  unfold enq
  rw [if_pos (enq_yes h), if_pos h2]
theorem enq_full {q dr : Int} {ps : PS} {xs : List Int} (h : (!okBuf q ps dr || decide ((60 : Int) < (xs.length : Nat))) = false) (h2 : ¬ (ps.length : Int) < q) : enq q ps dr xs = (ps, IntKind.i64.wrap (dr + 1)) := by
  unfold enq
  rw [if_pos (enq_yes h), if_neg h2]
theorem enq_tot (q dr : Int) (ps : PS) (xs : List Int) : (enq q ps dr xs).1.length + tot (enq q ps dr xs).1 ≤ ps.length + tot ps + 61 := by
  unfold enq
  split
  · rename_i h
    rw [Bool.and_eq_true] at h
    have := of_decide_eq_true h.2
    split
    · simp only [List.length_append, tot_append, tot, List.length_cons, List.length_nil]; omega
    · simp only; omega
  · simp only; omega
theorem sl_snoc {ps : PS} {xs : List Int} {a d : Value} {g c : Nat} : Ending.returned (Value.agg #[a, .slice (some ⟨g, 0, none⟩) (ps.length + 1) c, d]) = Ending.returned (Value.agg #[a, .slice (some ⟨g, 0, none⟩) (ps ++ [xs]).length c, d]) := by rw [List.length_append]; rfl

theorem Enq_c (q dr : Int) (ps : PS) (A : Option Addr) (b o c : Nat) (xs : List Int) (A2 : Option Addr) (b2 o2 c2 : Nat) (w : World) (hA : Pay w A b o ps) (hb : ps.length + tot ps ≤ 2097152) (hs2 : Sl w A2 b2 o2 (bv xs)) (hl : xs.length ≤ 2097152) :
    Calls Try.prog 27 #[.agg #[.int .i64 q, .slice A ps.length c, .int .i64 dr], .slice A2 xs.length c2] w fun e w' => ∃ x : PL, x.ok ((enq q ps dr xs).1) ∧ e = .returned (.agg #[.int .i64 (q), .slice (some ⟨x.g, 0, none⟩) ((enq q ps dr xs).1).length x.c, .int .i64 ((enq q ps dr xs).2)]) ∧ HP w ([x.blk] ++ inT [x.ds]) w' := by
  refine calls_entry [] _ Try.func27 rfl Try.ntmps27 (HP.refl w) (env2 rfl) ?_
  refine wc_seq ?_
  refine wc_region ?_
  refine wl_box (lk rfl) rfl fun b1 => ?_
  refine wl_alloc zc_29 rfl fun b2 => ?_
  refine wl_nil ?_
  refine px_then ?_
  refine wc_seq ?_
  refine wc_region ?_
  refine wl_v rfl (val_loadB (.tail _ (.head _)) (lk rfl) ag_29) ?_
  refine wl_callU (Ds := []) 2 rfl ci_50 (args1 (lk rfl)) rfl (fun w1 hw => copyBuf_c _ _ _ _ _ _ _ w1 (hA.hpT hw (m := 2) (Ds := []) rfl rfl) (by omega)) (fun _ => rfl) ?_
  rintro ⟨g7, c7, ds7, sp7⟩ ⟨hp7, hl7, hc7⟩
  simp only at hp7 hl7 hc7
  have hq7 := plcap hp7 hl7
  refine wl_alloc zc_29 rfl fun b3 => ?_
  refine wl_storeB 0 rfl (lk rfl) (lk rfl) ag_29 rfl rfl ?_
  refine wl_nil ?_
  refine px_then ?_
  refine wc_seq ?_
  refine wc_seq ?_
  refine wc_region ?_
  refine wl_v rfl (val_loadB (.tail _ (.tail _ (.tail _ (.head _)))) (lk rfl) ag_29) ?_
  refine wl_call gd_none rfl ci_15 (args1 (lk rfl)) (fun hG w1 hw => Valid_c _ _ _ _ _ _ _ w1 (hA.hpT hw (m := 4) (Ds := [ds7]) rfl rfl) (by omega)) ?_
  refine wl_v rfl (val_not (lk rfl)) ?_
  refine wl_v rfl (val_move (lk rfl)) ?_
  refine wl_val (gd_f rfl rfl rfl) rfl (val_move (lk rfl)) ?_
  refine wl_val (gd_f rfl rfl rfl) rfl (val_len es_42 (lkg rfl)) ?_
  refine wl_val (gd_f rfl rfl rfl) rfl (val_gtr (lkg rfl) lkc) ?_
  refine wl_v rfl (val_or (lk rfl) (lkg rfl)) ?_
  refine wl_nil ?_
  refine px_then ?_
  refine wc_cond (lk rfl) (fun hc0 => ?_) (fun hc0 => ?_)
  · refine wc_seq ?_
    refine wc_region ?_
    refine wl_v rfl (val_loadB (.head _) (lk rfl) ag_29) ?_
    refine wl_storeB 2 rfl (lk rfl) (lk rfl) ag_29 rfl rfl ?_
    refine wl_nil ?_
    refine px_then ?_
    refine wc_ret ?_
    refine px_then_ret ?_
    refine fin1 rfl (res_cell rfl (.tail _ (.tail _ (.head _))) ag_29) (fun w1 hw => ?_)
    rw [enq_no hc0]
    exact ⟨⟨g7, c7, ds7, sp7⟩, ⟨hp7, hl7, hc7⟩, rfl, hw.maskG [false, true, false, false] [(true, ds7)] rfl rfl⟩
  refine wc_skip ?_
  refine px_then ?_
  refine wc_seq ?_
  refine wc_seq ?_
  refine wc_region ?_
  refine wl_v rfl (val_field fo_29_1 (lk rfl)) ?_
  refine wl_v rfl (val_load1 t1_27 (lk rfl) (cell_own (.head _) fun _ => rfl)) ?_
  refine wl_v rfl (val_len es_27 (lk rfl)) ?_
  refine wl_v rfl (val_field fo_29_0 (lk rfl)) ?_
  refine wl_v rfl (val_load1 t1_3 (lk rfl) (cell_own (.head _) fun _ => rfl)) ?_
  refine wl_v rfl (val_lss (lk rfl) (lk rfl)) ?_
  refine wl_nil ?_
  refine px_then ?_
  refine wc_cond (lk rfl) (fun hc1 => ?_) (fun hc1 => ?_)
  · have hq := of_decide_eq_true hc1
    refine wc_region_amG 8 [true, false, true, true] [ds7] 9 mo_ rfl ?_
    refine wa_take 0 rfl (by kernel_rfl) (by kernel_rfl) (by kernel_rfl) (by kernel_rfl) (fun _ h => h.maskG [true, false, true, true] [(true, ds7)] rfl rfl) gd_none rfl (val_field fo_29_1 (lk rfl)) ?_
    refine wa_take 1 rfl (by kernel_rfl) (by kernel_rfl) (by kernel_rfl) (by kernel_rfl) (fun _ h => h.maskG [true, false, true, true] [(true, ds7)] rfl rfl) gd_none rfl (val_load1 t1_27 (lk rfl) (cell_own (.head _) fun _ => rfl)) ?_
    refine wa_take 2 rfl (by kernel_rfl) (by kernel_rfl) (by kernel_rfl) (by kernel_rfl) (fun _ h => h.maskG [true, false, true, true] [(true, ds7)] rfl rfl) gd_none rfl (val_move (lk rfl)) ?_
    refine wa_only 3 (by kernel_rfl) rfl ?_
    refine wl_callx rfl ci_51 (args1 (lk rfl)) (fun w1 hw => copyBytes_c xs _ _ _ _ w1 (hs2.hp hw (drop_new (m := 4) (Ds := [ds7]) rfl rfl)) hl) (fun _ => rfl) ?_
    rintro gb26 -
    refine wl_nil (px_qn (fun _ h => h.maskG [false, true, false, true, true] [(true, ds7)] rfl rfl) ?_)
    refine wa_take 4 rfl (by kernel_rfl) (by kernel_rfl) (by kernel_rfl) (by kernel_rfl) (fun _ h => h.maskG [false, true, false, true, true] [(true, ds7)] rfl rfl) gd_none rfl (val_buildP (partsC (lk rfl) parts0) (bl_52_0 _ _ _)) ?_
    refine wa_only 5 (by kernel_rfl) rfl ?_
    refine wl_bslice (partsC (lk rfl) parts0) (bsl_27_1_0 _ _ _) rfl fun b4 => ?_
    refine wl_nil (px_qn (fun _ h => h.maskG [false, false, true, false, true, true] [(true, ds7)] rfl rfl) ?_)
    refine wa_only 6 (by kernel_rfl) rfl ?_
    refine wl_append (xs := inC ds7) (sp := sp7) (ys := [.slice (some ⟨gb26, 0, none⟩) xs.length xs.length]) (m := 1) 3 es_27 zc_52 rfl (by decide) eb_52 (lk rfl) rfl (by rw [inC_len, Nat.mul_one]; exact (by rw [← pays_len, hp7])) hl7 hc7 (lk rfl) (fun _ hw => Sl.own' hw (.head _)) rfl (fun u hu => by have h9 := List.mem_singleton.1 hu; rw [h9]; rfl) (by omega) (by omega) rfl fun g29 c29 sp29 hl29 hc29 _ => ?_
    refine wl_nil (px_qn (fun _ h => h.maskG [false, false, false, true, true, true] [(true, ds7)] rfl rfl) ?_)
    refine wa_take 7 rfl (by kernel_rfl) (by kernel_rfl) (by kernel_rfl) (by kernel_rfl) (fun _ h => h.maskG [false, false, false, true, true, true] [(true, ds7)] rfl rfl) gd_none rfl (val_field fo_29_1 (lk rfl)) ?_
    refine wa_only 8 (by kernel_rfl) rfl ?_
    refine wl_store1 3 rfl (lk rfl) (lk rfl) t1_27 rfl (rfl) ?_
    refine wl_nil (px_ql ?_)
    refine wa_done (by kernel_rfl) ?_
    refine px_then ?_
    refine wc_seq ?_
    refine wc_region ?_
    refine wl_v rfl (val_loadB (.tail _ (.tail _ (.tail _ (.head _)))) (lk rfl) ag_29) ?_
    refine wl_storeB 4 rfl (lk rfl) (lk rfl) ag_29 rfl rfl ?_
    refine wl_nil ?_
    refine px_then ?_
    refine wc_ret ?_
    refine fin1 rfl (res_cell rfl (.tail _ (.tail _ (.tail _ (.tail _ (.head _))))) ag_29) (fun w1 hw => ?_)
    rw [enq_in hc0 hq]
    have h' : HP w (⟨g29, true, 52, inC ds7 ++ [.slice (some ⟨gb26, 0, none⟩) xs.length xs.length] ++ sp29⟩ :: ⟨gb26, true, 5, bv xs⟩ :: inT [ds7]) w1 := hw.maskG [true, false, true, false, false, false] [(true, ds7)] rfl rfl
    have h9 := hl29
    rw [nsn gb26 xs.length _ []] at h' h9
    exact ⟨⟨g29, c29, ds7 ++ [(⟨gb26, xs.length, xs, []⟩ : Inn)], sp29⟩, ⟨by rw [← hp7]; simp [pays], h9, hc29⟩, sl_snoc, HP.snoc' (⟨gb26, xs.length, xs, []⟩ : Inn) (by simp [Inn.blk]) h'⟩
  have hq := of_decide_eq_false hc1
  refine wc_region ?_
  refine wl_v rfl (val_field fo_29_2 (lk rfl)) ?_
  refine wl_v rfl (val_load1 t1_3 (lk rfl) (cell_own (.head _) fun _ => rfl)) ?_
  refine wl_v rfl (val_add (lk rfl) lkc) ?_
  refine wl_v rfl (val_field fo_29_2 (lk rfl)) ?_
  refine wl_store1 0 rfl (lk rfl) (lk rfl) t1_3 rfl (rfl) ?_
  refine wl_nil ?_
  refine px_then ?_
  refine wc_seq ?_
  refine wc_region ?_
  refine wl_v rfl (val_loadB (.head _) (lk rfl) ag_29) ?_
  refine wl_storeB 2 rfl (lk rfl) (lk rfl) ag_29 rfl rfl ?_
  refine wl_nil ?_
  refine px_then ?_
  refine wc_ret ?_
  refine fin1 rfl (res_cell rfl (.tail _ (.tail _ (.head _))) ag_29) (fun w1 hw => ?_)
  rw [enq_full hc0 hq]
  exact ⟨⟨g7, c7, ds7, sp7⟩, ⟨hp7, hl7, hc7⟩, rfl, hw.maskG [false, true, false, false] [(true, ds7)] rfl rfl⟩

theorem sEnq_c (q dr : Int) (ps : PS) (A : Option Addr) (b o c : Nat) (xs : List Int) (A2 : Option Addr) (b2 o2 c2 : Nat) (w : World) (hA : Pay w A b o ps) (hb : ps.length + tot ps ≤ 2097152) (hs2 : Sl w A2 b2 o2 (bv xs)) (hl : xs.length ≤ 2097152) :
    Calls Try.prog 31 #[.agg #[.int .i64 q, .slice A ps.length c, .int .i64 dr], .slice A2 xs.length c2] w fun e w' => ∃ x : PL, x.ok ((enq q ps dr xs).1) ∧ e = .returned (.agg #[.int .i64 (q), .slice (some ⟨x.g, 0, none⟩) ((enq q ps dr xs).1).length x.c, .int .i64 ((enq q ps dr xs).2)]) ∧ HP w ([x.blk] ++ inT [x.ds]) w' := by
  refine calls_entry [] _ Try.func31 rfl Try.ntmps31 (HP.refl w) (env2 rfl) ?_
  refine wc_seq ?_
  refine wc_region ?_
  refine wl_box (lk rfl) rfl fun b1 => ?_
  refine wl_alloc zc_29 rfl fun b2 => ?_
  refine wl_nil ?_
  refine px_then ?_
  refine wc_seq ?_
  refine wc_region ?_
  refine wl_v rfl (val_loadB (.tail _ (.head _)) (lk rfl) ag_29) ?_
  refine wl_callU (Ds := []) 2 rfl ci_53 (args1 (lk rfl)) rfl (fun w1 hw => sCopyBuf_c _ _ _ _ _ _ _ w1 (hA.hpT hw (m := 2) (Ds := []) rfl rfl) (by omega)) (fun _ => rfl) ?_
  rintro ⟨g7, c7, ds7, sp7⟩ ⟨hp7, hl7, hc7⟩
  simp only at hp7 hl7 hc7
  have hq7 := plcap hp7 hl7
  refine wl_alloc zc_29 rfl fun b3 => ?_
  refine wl_storeB 0 rfl (lk rfl) (lk rfl) ag_29 rfl rfl ?_
  refine wl_nil ?_
  refine px_then ?_
  refine wc_seq ?_
  refine wc_seq ?_
  refine wc_region ?_
  refine wl_v rfl (val_loadB (.tail _ (.tail _ (.tail _ (.head _)))) (lk rfl) ag_29) ?_
  refine wl_call gd_none rfl ci_14 (args1 (lk rfl)) (fun hG w1 hw => sValid_c _ _ _ _ _ _ _ w1 (hA.hpT hw (m := 4) (Ds := [ds7]) rfl rfl) (by omega)) ?_
  refine wl_v rfl (val_not (lk rfl)) ?_
  refine wl_v rfl (val_move (lk rfl)) ?_
  refine wl_val (gd_f rfl rfl rfl) rfl (val_move (lk rfl)) ?_
  refine wl_val (gd_f rfl rfl rfl) rfl (val_len es_42 (lkg rfl)) ?_
  refine wl_val (gd_f rfl rfl rfl) rfl (val_gtr (lkg rfl) lkc) ?_
  refine wl_v rfl (val_or (lk rfl) (lkg rfl)) ?_
  refine wl_nil ?_
  refine px_then ?_
  refine wc_cond (lk rfl) (fun hc0 => ?_) (fun hc0 => ?_)
  · refine wc_seq ?_
    refine wc_region ?_
    refine wl_v rfl (val_loadB (.head _) (lk rfl) ag_29) ?_
    refine wl_storeB 2 rfl (lk rfl) (lk rfl) ag_29 rfl rfl ?_
    refine wl_nil ?_
    refine px_then ?_
    refine wc_ret ?_
    refine px_then_ret ?_
    refine fin1 rfl (res_cell rfl (.tail _ (.tail _ (.head _))) ag_29) (fun w1 hw => ?_)
    rw [enq_no hc0]
    exact ⟨⟨g7, c7, ds7, sp7⟩, ⟨hp7, hl7, hc7⟩, rfl, hw.maskG [false, true, false, false] [(true, ds7)] rfl rfl⟩
  refine wc_skip ?_
  refine px_then ?_
  refine wc_seq ?_
  refine wc_seq ?_
  refine wc_region ?_
  refine wl_v rfl (val_field fo_29_1 (lk rfl)) ?_
  refine wl_v rfl (val_load1 t1_27 (lk rfl) (cell_own (.tail _ (.tail _ (.tail _ (.head _)))) fun _ => rfl)) ?_
  refine wl_v rfl (val_len es_27 (lk rfl)) ?_
  refine wl_v rfl (val_field fo_29_0 (lk rfl)) ?_
  refine wl_v rfl (val_load1 t1_3 (lk rfl) (cell_own (.tail _ (.tail _ (.tail _ (.head _)))) fun _ => rfl)) ?_
  refine wl_v rfl (val_geq (lk rfl) (lk rfl)) ?_
  refine wl_nil ?_
  refine px_then ?_
  refine wc_cond (lk rfl) (fun hc1 => ?_) (fun hc1 => ?_)
  · have hq : ¬ (ps.length : Int) < q := by have := of_decide_eq_true hc1; omega
    refine wc_seq ?_
    refine wc_region ?_
    refine wl_v rfl (val_field fo_29_2 (lk rfl)) ?_
    refine wl_v rfl (val_load1 t1_3 (lk rfl) (cell_own (.tail _ (.tail _ (.tail _ (.head _)))) fun _ => rfl)) ?_
    refine wl_v rfl (val_add (lk rfl) lkc) ?_
    refine wl_v rfl (val_field fo_29_2 (lk rfl)) ?_
    refine wl_store1 0 rfl (lk rfl) (lk rfl) t1_3 rfl (rfl) ?_
    refine wl_nil ?_
    refine px_then ?_
    refine wc_seq ?_
    refine wc_region ?_
    refine wl_v rfl (val_loadB (.head _) (lk rfl) ag_29) ?_
    refine wl_storeB 2 rfl (lk rfl) (lk rfl) ag_29 rfl rfl ?_
    refine wl_nil ?_
    refine px_then ?_
    refine wc_ret ?_
    refine px_then_ret ?_
    refine fin1 rfl (res_cell rfl (.tail _ (.tail _ (.head _))) ag_29) (fun w1 hw => ?_)
    rw [enq_full hc0 hq]
    exact ⟨⟨g7, c7, ds7, sp7⟩, ⟨hp7, hl7, hc7⟩, rfl, hw.maskG [false, true, false, false] [(true, ds7)] rfl rfl⟩
  have hq : (ps.length : Int) < q := by have := of_decide_eq_false hc1; omega
  refine wc_skip ?_
  refine px_then ?_
  refine wc_seq ?_
  refine wc_region_amG 9 [true, false, true, true] [ds7] 10 mo_ rfl ?_
  refine wa_take 0 rfl (by kernel_rfl) (by kernel_rfl) (by kernel_rfl) (by kernel_rfl) (fun _ h => h.maskG [true, false, true, true] [(true, ds7)] rfl rfl) gd_none rfl (val_field fo_29_1 (lk rfl)) ?_
  refine wa_take 1 rfl (by kernel_rfl) (by kernel_rfl) (by kernel_rfl) (by kernel_rfl) (fun _ h => h.maskG [true, false, true, true] [(true, ds7)] rfl rfl) gd_none rfl (val_load1 t1_27 (lk rfl) (cell_own (.head _) fun _ => rfl)) ?_
  refine wa_take 3 rfl (by kernel_rfl) (by kernel_rfl) (by kernel_rfl) (by kernel_rfl) (fun _ h => h.maskG [true, false, true, true] [(true, ds7)] rfl rfl) gd_none rfl (val_move (lk rfl)) ?_
  refine wa_only 2 (by kernel_rfl) rfl ?_
  refine wl_bslice parts0 bsl_42_0_ rfl fun b4 => ?_
  refine wl_nil (px_qn (fun _ h => h.maskG [false, true, false, true, true] [(true, ds7)] rfl rfl) ?_)
  refine wa_only 4 (by kernel_rfl) rfl ?_
  refine wl_appendE (ys := bv (xs)) (m := xs.length) 0 es_42 zc_5 rfl (by decide) eb_5 (lk rfl) rfl rfl (by decide) (lk rfl) (fun _ hw => hs2.hp hw (drop_new (m := 5) (Ds := [ds7]) rfl rfl)) (by rw [bv_len, Nat.mul_one]) (fun _ h => bv_one h) (by omega) (by omega) rfl fun g32 c32 sp32 hl32 hc32 => ?_
  refine wl_nil (px_qn (fun _ h => h.maskG [false, true, false, true, true] [(true, ds7)] rfl rfl) ?_)
  refine wa_take 5 rfl (by kernel_rfl) (by kernel_rfl) (by kernel_rfl) (by kernel_rfl) (fun _ h => h.maskG [false, true, false, true, true] [(true, ds7)] rfl rfl) gd_none rfl (val_buildP (partsC (lk rfl) parts0) (bl_52_0 _ _ _)) ?_
  refine wa_only 6 (by kernel_rfl) rfl ?_
  refine wl_bslice (partsC (lk rfl) parts0) (bsl_27_1_0 _ _ _) rfl fun b5 => ?_
  refine wl_nil (px_qn (fun _ h => h.maskG [false, false, true, false, true, true] [(true, ds7)] rfl rfl) ?_)
  refine wa_only 7 (by kernel_rfl) rfl ?_
  refine wl_append (xs := inC ds7) (sp := sp7) (ys := [.slice (some ⟨g32, 0, none⟩) xs.length c32]) (m := 1) 3 es_27 zc_52 rfl (by decide) eb_52 (lk rfl) rfl (by rw [inC_len, Nat.mul_one]; exact (by rw [← pays_len, hp7])) hl7 hc7 (lk rfl) (fun _ hw => Sl.own' hw (.head _)) rfl (fun u hu => by have h9 := List.mem_singleton.1 hu; rw [h9]; rfl) (by omega) (by omega) rfl fun g35 c35 sp35 hl35 hc35 _ => ?_
  refine wl_nil (px_qn (fun _ h => h.maskG [false, false, false, true, true, true] [(true, ds7)] rfl rfl) ?_)
  refine wa_take 8 rfl (by kernel_rfl) (by kernel_rfl) (by kernel_rfl) (by kernel_rfl) (fun _ h => h.maskG [false, false, false, true, true, true] [(true, ds7)] rfl rfl) gd_none rfl (val_field fo_29_1 (lk rfl)) ?_
  refine wa_only 9 (by kernel_rfl) rfl ?_
  refine wl_store1 3 rfl (lk rfl) (lk rfl) t1_27 rfl (rfl) ?_
  refine wl_nil (px_ql ?_)
  refine wa_done (by kernel_rfl) ?_
  refine px_then ?_
  refine wc_seq ?_
  refine wc_region ?_
  refine wl_v rfl (val_loadB (.tail _ (.tail _ (.tail _ (.head _)))) (lk rfl) ag_29) ?_
  refine wl_storeB 4 rfl (lk rfl) (lk rfl) ag_29 rfl rfl ?_
  refine wl_nil ?_
  refine px_then ?_
  refine wc_ret ?_
  refine fin1 rfl (res_cell rfl (.tail _ (.tail _ (.tail _ (.tail _ (.head _))))) ag_29) (fun w1 hw => ?_)
  rw [enq_in hc0 hq]
  have h' : HP w (⟨g35, true, 52, inC ds7 ++ [.slice (some ⟨g32, 0, none⟩) xs.length c32] ++ sp35⟩ :: ⟨g32, true, 5, bv xs ++ sp32⟩ :: inT [ds7]) w1 := hw.maskG [true, false, true, false, false, false] [(true, ds7)] rfl rfl
  have h9 := hl35
  rw [nsn g32 c32 _ sp32] at h' h9
  exact ⟨⟨g35, c35, ds7 ++ [(⟨g32, c32, xs, sp32⟩ : Inn)], sp35⟩, ⟨by rw [← hp7]; simp [pays], h9, hc35⟩, sl_snoc, HP.snoc' (⟨g32, c32, xs, sp32⟩ : Inn) rfl h'⟩

end Go.Proofs.Ytfinobpodmdkgaa
