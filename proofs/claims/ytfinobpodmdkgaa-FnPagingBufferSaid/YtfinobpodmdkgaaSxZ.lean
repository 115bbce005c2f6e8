/- Paging buffers: what the functions do, walked. -/
import Derived.Test.YtfinobpodmdkgaaSxY
namespace Go.Proofs.Ytfinobpodmdkgaa
open Go.RowKit


theorem Pay.sub {w : World} {A : Option Addr} {b o cap : Nat} {ps : PS} (h : Pay w A b o ps) (hc : ps.length ≤ cap) (i : Nat) : Pay w (if cap = i then A else A.map (·.add (i * 1))) b (o + i * 1) (ps.drop i) := by
  refine h.drop (fun hi => ?_)
  rw [if_neg]
  intro e
  subst e
  omega
theorem Pay.sub0 {w : World} {A : Option Addr} {b o cap : Nat} {ps : PS} (h : Pay w A b o ps) (hc : ps.length ≤ cap) (j : Nat) : Pay w (if cap = 0 then A else A.map (·.add (0 * 1))) b o (ps.take j) := by
  have := (h.sub hc 0).take j
  simpa using this
def cl (n : Int) (m : Nat) : Nat := (imax 0 (imin n m)).toNat
theorem cl_le (n : Int) (m : Nat) : cl n m ≤ m := by unfold cl imax imin; split <;> split <;> omega
theorem cl_s (n : Int) (m : Nat) : imax 0 (imin n m) = (cl n m : Int) := by unfold cl imax imin; split <;> split <;> omega
theorem cl_i (n : Int) (m : Nat) : imin (imax n 0) m = (cl n m : Int) := by unfold cl imax imin; repeat' split <;> omega
theorem tot_td (ps : PS) (i : Nat) : tot (ps.take i) + tot (ps.drop i) = tot ps := by
  rw [← tot_append, List.take_append_drop]

theorem Drain_c (q dr : Int) (ps : PS) (A : Option Addr) (b o c : Nat) (w : World) (hA : Pay w A b o ps) (hb : ps.length + tot ps ≤ 2097152) :
    Calls Try.prog 17 #[.agg #[.int .i64 q, .slice A ps.length c, .int .i64 dr]] w fun e w' => ∃ x : PL, x.ok (ps) ∧ e = .returned (.tuple #[.agg #[.int .i64 q, .slice none 0 0, .int .i64 dr], .slice (some ⟨x.g, 0, none⟩) (ps).length x.c]) ∧ HP w ([x.blk] ++ inT [x.ds]) w' := by
  refine calls_entry [] _ Try.func17 rfl Try.ntmps17 (HP.refl w) (env1 rfl) ?_
  refine wc_seq ?_
  refine wc_region ?_
  refine wl_box (lk rfl) rfl fun b1 => ?_
  refine wl_alloc zc_29 rfl fun b2 => ?_
  refine wl_v rfl (val_assign lkc) ?_
  refine wl_nil ?_
  refine px_then ?_
  refine wc_seq ?_
  refine wc_region ?_
  refine wl_v rfl (val_field fo_29_1 (lk rfl)) ?_
  refine wl_v rfl (val_load1 t1_27 (lk rfl) (cell_own (.tail _ (.head _)) fun _ => rfl)) ?_
  refine wl_callU (Ds := []) 2 rfl ci_42 (args1 (lk rfl)) rfl (fun w1 hw => copyPays_c _ _ _ _ _ w1 (hA.hpT hw (m := 2) (Ds := []) rfl rfl) (by omega)) (fun _ => rfl) ?_
  rintro ⟨g7, c7, ds7, sp7⟩ ⟨hp7, hl7, hc7⟩
  simp only at hp7 hl7 hc7
  have hq7 := plcap hp7 hl7
  refine wl_v rfl (val_assign (lk rfl)) ?_
  refine wl_nil ?_
  refine px_then ?_
  refine wc_seq ?_
  refine wc_region ?_
  refine wl_v rfl (val_field fo_29_1 (lk rfl)) ?_
  refine wl_store1 2 rfl (lk rfl) lkc t1_27 rfl (rfl) ?_
  refine wl_nil ?_
  refine px_then ?_
  refine wc_seq ?_
  refine wc_region ?_
  refine wl_v rfl (val_loadB (.tail _ (.tail _ (.head _))) (lk rfl) ag_29) ?_
  refine wl_v rfl (val_move (lk rfl)) ?_
  refine wl_storeB 1 rfl (lk rfl) (lk rfl) ag_29 rfl rfl ?_
  refine wl_v rfl (val_assign (lk rfl)) ?_
  refine wl_nil ?_
  refine px_then ?_
  refine wc_ret ?_
  refine fin2 rfl (res_cell rfl (.tail _ (.head _)) ag_29) (res_tmp rfl) (fun w1 hw => ?_)
  exact ⟨⟨g7, c7, ds7, sp7⟩, ⟨hp7, hl7, hc7⟩, rfl, hw.maskG [true, false, false] [(true, ds7)] rfl rfl⟩

theorem sDrain_c (q dr : Int) (ps : PS) (A : Option Addr) (b o c : Nat) (w : World) (hA : Pay w A b o ps) (hb : ps.length + tot ps ≤ 2097152) :
    Calls Try.prog 16 #[.agg #[.int .i64 q, .slice A ps.length c, .int .i64 dr]] w fun e w' => ∃ x : PL, x.ok (ps) ∧ e = .returned (.tuple #[.agg #[.int .i64 q, .slice none 0 0, .int .i64 dr], .slice (some ⟨x.g, 0, none⟩) (ps).length x.c]) ∧ HP w ([x.blk] ++ inT [x.ds]) w' := by
  refine calls_entry [] _ Try.func16 rfl Try.ntmps16 (HP.refl w) (env1 rfl) ?_
  refine wc_seq ?_
  refine wc_region ?_
  refine wl_box (lk rfl) rfl fun b1 => ?_
  refine wl_alloc zc_29 rfl fun b2 => ?_
  refine wl_v rfl (val_assign lkc) ?_
  refine wl_nil ?_
  refine px_then ?_
  refine wc_seq ?_
  refine wc_region_am [false, true] 10 mo_ rfl ?_
  refine wa_take 0 rfl (by kernel_rfl) (by kernel_rfl) (by kernel_rfl) (by kernel_rfl) (fun _ h => h.mask [false, true] rfl) gd_none rfl (val_field fo_29_0 (lk rfl)) ?_
  refine wa_take 1 rfl (by kernel_rfl) (by kernel_rfl) (by kernel_rfl) (by kernel_rfl) (fun _ h => h.mask [false, true] rfl) gd_none rfl (val_load1 t1_3 (lk rfl) (cell_own (.head _) fun _ => rfl)) ?_
  refine wa_take 2 rfl (by kernel_rfl) (by kernel_rfl) (by kernel_rfl) (by kernel_rfl) (fun _ h => h.mask [false, true] rfl) gd_none rfl (val_field fo_29_2 (lk rfl)) ?_
  refine wa_take 3 rfl (by kernel_rfl) (by kernel_rfl) (by kernel_rfl) (by kernel_rfl) (fun _ h => h.mask [false, true] rfl) gd_none rfl (val_load1 t1_3 (lk rfl) (cell_own (.head _) fun _ => rfl)) ?_
  refine wa_take 4 rfl (by kernel_rfl) (by kernel_rfl) (by kernel_rfl) (by kernel_rfl) (fun _ h => h.mask [false, true] rfl) gd_none rfl (val_buildP (partsC (lk rfl) (partsC (lk rfl) parts0)) (bl_29_0_2 _ _)) ?_
  refine wa_take 5 rfl (by kernel_rfl) (by kernel_rfl) (by kernel_rfl) (by kernel_rfl) (fun _ h => h.mask [false, true] rfl) gd_none rfl (val_field fo_29_1 (lk rfl)) ?_
  refine wa_take 6 rfl (by kernel_rfl) (by kernel_rfl) (by kernel_rfl) (by kernel_rfl) (fun _ h => h.mask [false, true] rfl) gd_none rfl (val_load1 t1_27 (lk rfl) (cell_own (.head _) fun _ => rfl)) ?_
  refine wa_only 7 (by kernel_rfl) rfl ?_
  refine wl_callU (Ds := []) 2 rfl ci_41 (args1 (lk rfl)) rfl (fun w1 hw => bodies_c _ _ _ _ _ w1 (hA.hpT hw (m := 2) (Ds := []) rfl rfl) (by omega)) (fun _ => rfl) ?_
  rintro ⟨g11, c11, ds11, sp11⟩ ⟨hp11, hl11, hc11⟩
  simp only at hp11 hl11 hc11
  have hq11 := plcap hp11 hl11
  refine wl_nil (px_qn (fun _ h => h.maskG [false, false, true] [(false, ds11)] rfl rfl) ?_)
  refine wa_only 8 (by kernel_rfl) rfl ?_
  refine wl_storeB 1 rfl (lk rfl) (lk rfl) ag_29 rfl rfl ?_
  refine wl_nil (px_qn (fun _ h => h.maskG [false, false, true] [(false, ds11)] rfl rfl) ?_)
  refine wa_take 9 rfl (by kernel_rfl) (by kernel_rfl) (by kernel_rfl) (by kernel_rfl) (fun _ h => h.maskG [false, false, true] [(false, ds11)] rfl rfl) gd_none rfl (val_assign (lk rfl)) ?_
  refine wa_done (by kernel_rfl) ?_
  refine px_then ?_
  refine wc_ret ?_
  refine fin2 rfl (res_cell rfl (.tail _ (.head _)) ag_29) (res_tmp rfl) (fun w1 hw => ?_)
  exact ⟨⟨g11, c11, ds11, sp11⟩, ⟨hp11, hl11, hc11⟩, rfl, hw.maskG [true, false, false] [(true, ds11)] rfl rfl⟩


structure PL2 where
  a : PL
  b : PL

theorem Deq_c (q dr : Int) (ps : PS) (A : Option Addr) (b o c : Nat) (n : Int) (w : World) (hA : Pay w A b o ps) (hb : ps.length + tot ps ≤ 2097152) (hcap : ps.length ≤ c) :
    Calls Try.prog 24 #[.agg #[.int .i64 q, .slice A ps.length c, .int .i64 dr], .int .i64 n] w fun e w' => ∃ x : PL2, (x.a.ok (ps.take (cl n ps.length)) ∧ x.b.ok (ps.drop (cl n ps.length))) ∧ e = .returned (.tuple #[.slice (some ⟨x.a.g, 0, none⟩) (ps.take (cl n ps.length)).length x.a.c, .agg #[.int .i64 q, .slice (some ⟨x.b.g, 0, none⟩) (ps.drop (cl n ps.length)).length x.b.c, .int .i64 dr]]) ∧ HP w ([x.b.blk, x.a.blk] ++ inT [x.b.ds, x.a.ds]) w' := by
  have hcl := cl_le n ps.length
  refine calls_entry [] _ Try.func24 rfl Try.ntmps24 (HP.refl w) (env2 rfl) ?_
  refine wc_seq ?_
  refine wc_region ?_
  refine wl_box (lk rfl) rfl fun b1 => ?_
  refine wl_v rfl (val_assign lkc) ?_
  refine wl_alloc zc_29 rfl fun b2 => ?_
  refine wl_nil ?_
  refine px_then ?_
  refine wc_seq ?_
  refine wc_region_q mo_ (by kernel_rfl) ?_
  refine wq_v rfl (val_move (lk rfl)) ?_
  refine wq_call gd_none rfl ci_48 (args2 (lk rfl) lkc) (fun hG w1 hw => Max_c _ _ w1) ?_
  refine wq_v rfl (val_field fo_29_1 (lk rfl)) ?_
  refine wq_v rfl (val_load1 t1_27 (lk rfl) (cell_own (.tail _ (.head _)) fun _ => rfl)) ?_
  refine wq_v rfl (val_len es_27 (lk rfl)) ?_
  refine wq_call gd_none rfl ci_47 (args2 (lk rfl) (lk rfl)) (fun hG w1 hw => Min_c _ _ w1) ?_
  refine wq_v rfl ((val_assign (lk rfl)).eq (congrArg (Value.int .i64) (cl_i n ps.length))) ?_
  refine wq_nil ?_
  refine px_then ?_
  refine wc_seq ?_
  refine wc_region ?_
  refine wl_v rfl (val_field fo_29_1 (lk rfl)) ?_
  refine wl_v rfl (val_load1 t1_27 (lk rfl) (cell_own (.tail _ (.head _)) fun _ => rfl)) ?_
  refine wl_v rfl (val_move (lk rfl)) ?_
  refine wl_v rfl ((val_slice_all es_27 (lk rfl) none (some (.tmp 15)) 0 (cl n ps.length) rfl ⟨_, lk rfl⟩ (fun _ => Nat.zero_le _) (fun _ => by omega)).eq (show _ = Value.slice (if c = 0 then A else A.map (·.add (0 * 1))) (ps.take (cl n ps.length)).length (c - 0) by rw [List.length_take, Nat.min_eq_left hcl]; rfl)) ?_
  refine wl_callU (Ds := []) 2 rfl ci_42 (args1 (lk rfl)) rfl (fun w1 hw => copyPays_c (ps.take (cl n ps.length)) _ _ _ _ w1 ((hA.hpT hw (m := 2) (Ds := []) rfl rfl).sub0 hcap _) (by have h9 := tot_td ps (cl n ps.length); simp only [List.length_take]; omega)) (fun _ => rfl) ?_
  rintro ⟨g17, c17, ds17, sp17⟩ ⟨hp17, hl17, hc17⟩
  simp only at hp17 hl17 hc17
  have hq17 := plcap hp17 hl17
  refine wl_v rfl (val_assign (lk rfl)) ?_
  refine wl_nil ?_
  refine px_then ?_
  refine wc_seq ?_
  refine wc_region ?_
  refine wl_v rfl (val_field fo_29_1 (lk rfl)) ?_
  refine wl_v rfl (val_load1 t1_27 (lk rfl) (cell_own (.tail _ (.tail _ (.head _))) fun _ => rfl)) ?_
  refine wl_v rfl (val_move (lk rfl)) ?_
  refine wl_v rfl ((val_slice_all es_27 (lk rfl) (some (.tmp 20)) none (cl n ps.length) ps.length ⟨_, lk rfl⟩ rfl (fun _ => hcl) (fun _ => hcap)).eq (show _ = Value.slice (if c = cl n ps.length then A else A.map (·.add (cl n ps.length * 1))) (ps.drop (cl n ps.length)).length (c - cl n ps.length) by rw [List.length_drop])) ?_
  refine wl_callU (Ds := [ds17]) 3 rfl ci_42 (args1 (lk rfl)) rfl (fun w1 hw => copyPays_c (ps.drop (cl n ps.length)) _ _ _ _ w1 ((hA.hpT hw (m := 3) (Ds := [ds17]) rfl rfl).sub hcap _) (by have h9 := tot_td ps (cl n ps.length); simp only [List.length_drop]; omega)) (fun _ => rfl) ?_
  rintro ⟨g22, c22, ds22, sp22⟩ ⟨hp22, hl22, hc22⟩
  simp only at hp22 hl22 hc22
  have hq22 := plcap hp22 hl22
  refine wl_v rfl (val_field fo_29_1 (lk rfl)) ?_
  refine wl_store1 3 rfl (lk rfl) (lk rfl) t1_27 rfl (rfl) ?_
  refine wl_nil ?_
  refine px_then ?_
  refine wc_seq ?_
  refine wc_region_aL 3 4 mo_ rfl ?_
  refine wa_take 0 rfl (by kernel_rfl) (by kernel_rfl) (by kernel_rfl) (by kernel_rfl) (fun _ h => h.maskG [true, true, true, true] [(true, ds22), (true, ds17)] rfl rfl) gd_none rfl (val_move (lk rfl)) ?_
  refine wa_take 1 rfl (by kernel_rfl) (by kernel_rfl) (by kernel_rfl) (by kernel_rfl) (fun _ h => h.maskG [true, true, true, true] [(true, ds22), (true, ds17)] rfl rfl) gd_none rfl (val_loadB (.tail _ (.tail _ (.tail _ (.head _)))) (lk rfl) ag_29) ?_
  refine wa_take 2 rfl (by kernel_rfl) (by kernel_rfl) (by kernel_rfl) (by kernel_rfl) (fun _ h => h.maskG [true, true, true, true] [(true, ds22), (true, ds17)] rfl rfl) gd_none rfl (val_assign (lk rfl)) ?_
  refine wa_only 3 (by kernel_rfl) rfl ?_
  refine wl_storeB 2 rfl (lk rfl) (lk rfl) ag_29 rfl rfl ?_
  refine wl_nil (px_ql ?_)
  refine wa_done (by kernel_rfl) ?_
  refine px_then ?_
  refine wc_ret ?_
  refine fin2 rfl (res_tmp rfl) (res_cell rfl (.tail _ (.tail _ (.head _))) ag_29) (fun w1 hw => ?_)
  exact ⟨⟨⟨g17, c17, ds17, sp17⟩, ⟨g22, c22, ds22, sp22⟩⟩, ⟨⟨hp17, hl17, hc17⟩, ⟨hp22, hl22, hc22⟩⟩, rfl, hw.maskG [true, true, false, false] [(true, ds22), (true, ds17)] rfl rfl⟩

theorem sDeq_c (q dr : Int) (ps : PS) (A : Option Addr) (b o c : Nat) (n : Int) (w : World) (hA : Pay w A b o ps) (hb : ps.length + tot ps ≤ 2097152) (hcap : ps.length ≤ c) :
    Calls Try.prog 23 #[.agg #[.int .i64 q, .slice A ps.length c, .int .i64 dr], .int .i64 n] w fun e w' => ∃ x : PL2, (x.a.ok (ps.take (cl n ps.length)) ∧ x.b.ok (ps.drop (cl n ps.length))) ∧ e = .returned (.tuple #[.slice (some ⟨x.a.g, 0, none⟩) (ps.take (cl n ps.length)).length x.a.c, .agg #[.int .i64 q, .slice (some ⟨x.b.g, 0, none⟩) (ps.drop (cl n ps.length)).length x.b.c, .int .i64 dr]]) ∧ HP w ([x.b.blk, x.a.blk] ++ inT [x.b.ds, x.a.ds]) w' := by
  have hcl := cl_le n ps.length
  refine calls_entry [] _ Try.func23 rfl Try.ntmps23 (HP.refl w) (env2 rfl) ?_
  refine wc_seq ?_
  refine wc_region ?_
  refine wl_box (lk rfl) rfl fun b1 => ?_
  refine wl_v rfl (val_assign lkc) ?_
  refine wl_alloc zc_29 rfl fun b2 => ?_
  refine wl_nil ?_
  refine px_then ?_
  refine wc_seq ?_
  refine wc_region ?_
  refine wl_v rfl (val_move (lk rfl)) ?_
  refine wl_v rfl (val_field fo_29_1 (lk rfl)) ?_
  refine wl_v rfl (val_load1 t1_27 (lk rfl) (cell_own (.tail _ (.head _)) fun _ => rfl)) ?_
  refine wl_v rfl (val_len es_27 (lk rfl)) ?_
  refine wl_call gd_none rfl ci_46 (args2 (lk rfl) (lk rfl)) (fun hG w1 hw => sMin_c _ _ w1) ?_
  refine wl_call gd_none rfl ci_45 (args2 lkc (lk rfl)) (fun hG w1 hw => sMax_c _ _ w1) ?_
  refine wl_v rfl ((val_assign (lk rfl)).eq (congrArg (Value.int .i64) (cl_s n ps.length))) ?_
  refine wl_nil ?_
  refine px_then ?_
  refine wc_seq ?_
  refine wc_region_aL 16 17 mo_ rfl ?_
  refine wa_take 0 rfl (by kernel_rfl) (by kernel_rfl) (by kernel_rfl) (by kernel_rfl) (fun _ h => h.dropN 0 rfl) gd_none rfl (val_field fo_29_1 (lk rfl)) ?_
  refine wa_take 1 rfl (by kernel_rfl) (by kernel_rfl) (by kernel_rfl) (by kernel_rfl) (fun _ h => h.dropN 0 rfl) gd_none rfl (val_load1 t1_27 (lk rfl) (cell_own (.tail _ (.head _)) fun _ => rfl)) ?_
  refine wa_take 2 rfl (by kernel_rfl) (by kernel_rfl) (by kernel_rfl) (by kernel_rfl) (fun _ h => h.dropN 0 rfl) gd_none rfl (val_move (lk rfl)) ?_
  refine wa_take 3 rfl (by kernel_rfl) (by kernel_rfl) (by kernel_rfl) (by kernel_rfl) (fun _ h => h.dropN 0 rfl) gd_none rfl ((val_slice_all es_27 (lk rfl) none (some (.tmp 14)) 0 (cl n ps.length) rfl ⟨_, lk rfl⟩ (fun _ => Nat.zero_le _) (fun _ => by omega)).eq (show _ = Value.slice (if c = 0 then A else A.map (·.add (0 * 1))) (ps.take (cl n ps.length)).length (c - 0) by rw [List.length_take, Nat.min_eq_left hcl]; rfl)) ?_
  refine wa_take 5 rfl (by kernel_rfl) (by kernel_rfl) (by kernel_rfl) (by kernel_rfl) (fun _ h => h.dropN 0 rfl) gd_none rfl (val_field fo_29_0 (lk rfl)) ?_
  refine wa_take 6 rfl (by kernel_rfl) (by kernel_rfl) (by kernel_rfl) (by kernel_rfl) (fun _ h => h.dropN 0 rfl) gd_none rfl (val_load1 t1_3 (lk rfl) (cell_own (.tail _ (.head _)) fun _ => rfl)) ?_
  refine wa_take 7 rfl (by kernel_rfl) (by kernel_rfl) (by kernel_rfl) (by kernel_rfl) (fun _ h => h.dropN 0 rfl) gd_none rfl (val_field fo_29_1 (lk rfl)) ?_
  refine wa_take 8 rfl (by kernel_rfl) (by kernel_rfl) (by kernel_rfl) (by kernel_rfl) (fun _ h => h.dropN 0 rfl) gd_none rfl (val_load1 t1_27 (lk rfl) (cell_own (.tail _ (.head _)) fun _ => rfl)) ?_
  refine wa_take 9 rfl (by kernel_rfl) (by kernel_rfl) (by kernel_rfl) (by kernel_rfl) (fun _ h => h.dropN 0 rfl) gd_none rfl (val_move (lk rfl)) ?_
  refine wa_take 10 rfl (by kernel_rfl) (by kernel_rfl) (by kernel_rfl) (by kernel_rfl) (fun _ h => h.dropN 0 rfl) gd_none rfl ((val_slice_all es_27 (lk rfl) (some (.tmp 21)) none (cl n ps.length) ps.length ⟨_, lk rfl⟩ rfl (fun _ => hcl) (fun _ => hcap)).eq (show _ = Value.slice (if c = cl n ps.length then A else A.map (·.add (cl n ps.length * 1))) (ps.drop (cl n ps.length)).length (c - cl n ps.length) by rw [List.length_drop])) ?_
  refine wa_take 12 rfl (by kernel_rfl) (by kernel_rfl) (by kernel_rfl) (by kernel_rfl) (fun _ h => h.dropN 0 rfl) gd_none rfl (val_field fo_29_2 (lk rfl)) ?_
  refine wa_take 13 rfl (by kernel_rfl) (by kernel_rfl) (by kernel_rfl) (by kernel_rfl) (fun _ h => h.dropN 0 rfl) gd_none rfl (val_load1 t1_3 (lk rfl) (cell_own (.tail _ (.head _)) fun _ => rfl)) ?_
  refine wa_only 4 (by kernel_rfl) rfl ?_
  refine wl_callU (Ds := []) 2 rfl ci_41 (args1 (lk rfl)) rfl (fun w1 hw => bodies_c (ps.take (cl n ps.length)) _ _ _ _ w1 ((hA.hpT hw (m := 2) (Ds := []) rfl rfl).sub0 hcap _) (by have h9 := tot_td ps (cl n ps.length); simp only [List.length_take]; omega)) (fun _ => rfl) ?_
  rintro ⟨g16, c16, ds16, sp16⟩ ⟨hp16, hl16, hc16⟩
  simp only at hp16 hl16 hc16
  have hq16 := plcap hp16 hl16
  refine wl_nil (px_qn (fun _ h => h.maskG [false, true, true] [(false, ds16)] rfl rfl) ?_)
  refine wa_only 11 (by kernel_rfl) rfl ?_
  refine wl_callU (Ds := [ds16]) 3 rfl ci_41 (args1 (lk rfl)) rfl (fun w1 hw => bodies_c (ps.drop (cl n ps.length)) _ _ _ _ w1 ((hA.hpT hw (m := 3) (Ds := [ds16]) rfl rfl).sub hcap _) (by have h9 := tot_td ps (cl n ps.length); simp only [List.length_drop]; omega)) (fun _ => rfl) ?_
  rintro ⟨g23, c23, ds23, sp23⟩ ⟨hp23, hl23, hc23⟩
  simp only at hp23 hl23 hc23
  have hq23 := plcap hp23 hl23
  refine wl_nil (px_qn (fun _ h => h.maskG [false, false, true, true] [(false, ds23), (false, ds16)] rfl rfl) ?_)
  refine wa_take 14 rfl (by kernel_rfl) (by kernel_rfl) (by kernel_rfl) (by kernel_rfl) (fun _ h => h.maskG [false, false, true, true] [(false, ds23), (false, ds16)] rfl rfl) gd_none rfl (val_buildP (partsC (lk rfl) (partsC (lk rfl) (partsC (lk rfl) parts0))) (bl_29_0_1_2 _ _ _ _ _)) ?_
  refine wa_take 15 rfl (by kernel_rfl) (by kernel_rfl) (by kernel_rfl) (by kernel_rfl) (fun _ h => h.maskG [false, false, true, true] [(false, ds23), (false, ds16)] rfl rfl) gd_none rfl (val_assign (lk rfl)) ?_
  refine wa_only 16 (by kernel_rfl) rfl ?_
  refine wl_storeB 2 rfl (lk rfl) (lk rfl) ag_29 rfl rfl ?_
  refine wl_nil (px_ql ?_)
  refine wa_done (by kernel_rfl) ?_
  refine px_then ?_
  refine wc_ret ?_
  refine fin2 rfl (res_tmp rfl) (res_cell rfl (.tail _ (.tail _ (.head _))) ag_29) (fun w1 hw => ?_)
  exact ⟨⟨⟨g16, c16, ds16, sp16⟩, ⟨g23, c23, ds23, sp23⟩⟩, ⟨⟨hp16, hl16, hc16⟩, ⟨hp23, hl23, hc23⟩⟩, rfl, hw.maskG [true, true, false, false] [(true, ds23), (true, ds16)] rfl rfl⟩

end Go.Proofs.Ytfinobpodmdkgaa
