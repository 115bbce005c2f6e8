/- Records: the functions that make lists, and the laws on them, walked. -/
import Derived.Test.YtcdinidpclmmeaaSxN
import Derived.Test.YtcdinidpclmmeaaSxH
namespace Go.Proofs.Ytcdinidpclmmeaa
open Go.RowKit

theorem sCopyU_c (rs : List Rec) (A : Option Addr) (b o c : Nat) (w : World) (hs : Sl w A b o (flat encU rs)) (hl : rs.length ≤ 1048576) :
    Calls Try.prog 43 #[.slice A rs.length c] w fun e w' => ∃ x : Nat × Nat × List Value, ((flat encU (rs) ++ x.2.2).length = x.2.1 * 4 ∧ x.2.1 ≤ 9223372036854775807) ∧ e = .returned (.slice (some ⟨x.1, 0, none⟩) (rs).length x.2.1) ∧ HP w [⟨x.1, true, 31, flat encU (rs) ++ x.2.2⟩] w' := by
  refine calls_entry [] _ Try.func43 rfl Try.ntmps43 (HP.refl w) (env1 rfl) ?_
  refine wc_seq ?_
  refine wc_region ?_
  refine wl_v rfl (val_assign lkc) ?_
  refine wl_nil ?_
  refine px_then ?_
  refine wc_seq ?_
  refine wc_region ?_
  refine wl_bslice parts0 bsl_24_0_ rfl fun b1 => ?_
  refine wl_v rfl (val_move (lk rfl)) ?_
  refine wl_appendR (sp := []) encU_len (by decide) [] rs 0 es_24 zc_31 rfl eb_31 (lk rfl) rfl rfl (by decide) (lk rfl) (fun _ hw => hs.hp hw rfl) (by first | omega | (simp only [List.length_nil]; omega) | (simp only [List.length_cons, List.length_nil]; omega)) (by first | omega | (simp only [List.length_nil]; omega) | (simp only [List.length_cons, List.length_nil]; omega)) rfl fun a5 ac5 as5 hal5 ham5 => ?_
  refine wl_v rfl (val_assign (lk rfl)) ?_
  refine wl_nil ?_
  refine px_then ?_
  refine wc_ret ?_
  refine fin1 rfl (res_tmp rfl) (fun w1 hw => ?_)
  exact ⟨(a5, ac5, as5), ⟨hal5, ham5⟩, rfl, hw.mask [true] rfl⟩

theorem sApp_c (rs : List Rec) (A : Option Addr) (b o c : Nat) (r : Rec) (w : World) (hs : Sl w A b o (flat encU rs)) (hl : rs.length ≤ 1048576) :
    Calls Try.prog 17 #[.slice A rs.length c, .agg (recV encU r).toArray] w fun e w' => ∃ x : Nat × Nat × List Value, ((flat encU (appU rs r) ++ x.2.2).length = x.2.1 * 4 ∧ x.2.1 ≤ 9223372036854775807) ∧ e = .returned (.tuple #[.slice (some ⟨x.1, 0, none⟩) (appU rs r).length x.2.1, .bool (okAll (rs ++ [r]))]) ∧ HP w [⟨x.1, true, 31, flat encU (appU rs r) ++ x.2.2⟩] w' := by
  refine calls_entry [] _ Try.func17 rfl Try.ntmps17 (HP.refl w) (env2 rfl) ?_
  refine wc_seq ?_
  refine wc_region ?_
  refine wl_box (lk rfl) rfl fun b1 => ?_
  refine wl_v rfl (val_assign lkc) ?_
  refine wl_v rfl (val_assign lkc) ?_
  refine wl_nil ?_
  refine px_then ?_
  refine wc_seq ?_
  refine wc_region_a0 6 mo_ rfl ?_
  refine wa_take 0 rfl (by kernel_rfl) (by kernel_rfl) (by kernel_rfl) (by kernel_rfl) (fun _ h => h.dropN 0 rfl) gd_none rfl (val_move (lk rfl)) ?_
  refine wa_take 2 rfl (by kernel_rfl) (by kernel_rfl) (by kernel_rfl) (by kernel_rfl) (fun _ h => h.dropN 0 rfl) gd_none rfl (val_loadB (.head _) (lk rfl) ag_31) ?_
  refine wa_grp2 1 8 3 10 (fun _ h => h.dropN 0 rfl) (by kernel_rfl) (by decide) rfl rfl (ops_callx rfl rfl ci_43 (args1 (lk rfl)) (fun w1 hw => sCopyU_c rs _ _ _ _ w1 (hs.hp hw rfl) hl) (fun _ => rfl)) (ops_bslice rfl (partsC (lk rfl) parts0) (bsl_24_1_0 _ _ _ _) rfl) ?_
  rintro _ _ ⟨⟨gb8, gc8, gs8⟩, ⟨hgl8, hgc8⟩, rfl, rfl⟩ _ _ ⟨b2, rfl, rfl⟩
  refine wa_only 4 (by kernel_rfl) rfl ?_
  refine wl_appendR encU_len (by decide) rs [r] 1 es_24 zc_31 rfl eb_31 (lk rfl) rfl hgl8 hgc8 (lk rfl) (fun _ hw => Sl.own' (vs := flat encU [r]) hw (.head _)) (by first | omega | (simp only [List.length_nil]; omega) | (simp only [List.length_cons, List.length_nil]; omega)) (by first | omega | (simp only [List.length_nil]; omega) | (simp only [List.length_cons, List.length_nil]; omega)) rfl fun a11 ac11 as11 hal11 ham11 => ?_
  refine wl_nil (px_qn (fun _ h => h.dropN 2 rfl) ?_)
  refine wa_take 5 rfl (by kernel_rfl) (by kernel_rfl) (by kernel_rfl) (by kernel_rfl) (fun _ h => h.dropN 2 rfl) gd_none rfl (val_assign (lk rfl)) ?_
  refine wa_done (by kernel_rfl) ?_
  refine px_then ?_
  refine wc_seq ?_
  refine wc_seq ?_
  refine wc_region ?_
  refine wl_v rfl (val_move (lk rfl)) ?_
  refine wl_call gd_none rfl ci_22 (args1 (lk rfl)) (fun hG w1 hw => sOkAll_c (rs ++ [r]) _ _ _ _ w1 (Sl.own hw (.head _)) (by simp only [List.length_append, List.length_cons, List.length_nil]; omega) (cap_le encU_len (by decide) hal11)) ?_
  refine wl_v rfl (val_not (lk rfl)) ?_
  refine wl_nil ?_
  refine px_then ?_
  refine wc_cond (lk rfl) (fun hc0 => ?_) (fun hc0 => ?_)
  · have hcc : okAll (rs ++ [r]) = false := by simpa using hc0
    have hap : appU rs r = rs := by rw [appU, hcc]; rfl
    refine wc_seq ?_
    refine wc_region ?_
    refine wl_v rfl (val_move (lk rfl)) ?_
    refine wl_callx rfl ci_43 (args1 (lk rfl)) (fun w1 hw => sCopyU_c rs _ _ _ _ w1 (hs.hp hw rfl) hl) (fun _ => rfl) ?_
    rintro ⟨gb16, gc16, gs16⟩ ⟨hgl16, hgc16⟩
    refine wl_v rfl (val_assign (lk rfl)) ?_
    refine wl_v rfl (val_assign lkc) ?_
    refine wl_nil ?_
    refine px_then ?_
    refine wc_ret ?_
    refine px_then_ret ?_
    refine fin2 rfl (res_tmp rfl) (res_tmp rfl) (fun w1 hw => ?_)
    rw [hap, hcc]
    exact ⟨(gb16, gc16, gs16), ⟨hgl16, hgc16⟩, rfl, hw.mask [true, false, false, false] rfl⟩
  have hcc : okAll (rs ++ [r]) = true := by simpa using hc0
  have hap : appU rs r = rs ++ [r] := by rw [appU, hcc]; rfl
  refine wc_skip ?_
  refine px_then ?_
  refine wc_seq ?_
  refine wc_region ?_
  refine wl_v rfl (val_move (lk rfl)) ?_
  refine wl_v rfl (val_assign (lk rfl)) ?_
  refine wl_v rfl (val_assign lkc) ?_
  refine wl_nil ?_
  refine px_then ?_
  refine wc_ret ?_
  refine fin2 rfl (res_tmp rfl) (res_tmp rfl) (fun w1 hw => ?_)
  rw [hap, hcc]
  exact ⟨(a11, ac11, as11), ⟨hal11, ham11⟩, rfl, hw.mask [true, false, false] rfl⟩

theorem App_c (rs : List Rec) (A : Option Addr) (b o c : Nat) (r : Rec) (w : World) (hs : Sl w A b o (flat encU rs)) (hl : rs.length ≤ 1048576) :
    Calls Try.prog 16 #[.slice A rs.length c, .agg (recV encU r).toArray] w fun e w' => ∃ x : Nat × Nat × List Value, ((flat encU (appU rs r) ++ x.2.2).length = x.2.1 * 4 ∧ x.2.1 ≤ 9223372036854775807) ∧ e = .returned (.tuple #[.slice (some ⟨x.1, 0, none⟩) (appU rs r).length x.2.1, .bool (okAll (rs ++ [r]))]) ∧ HP w [⟨x.1, true, 31, flat encU (appU rs r) ++ x.2.2⟩] w' := by
  refine calls_entry [] _ Try.func16 rfl Try.ntmps16 (HP.refl w) (env2 rfl) ?_
  refine wc_seq ?_
  refine wc_region ?_
  refine wl_box (lk rfl) rfl fun b1 => ?_
  refine wl_v rfl (val_assign lkc) ?_
  refine wl_v rfl (val_assign lkc) ?_
  refine wl_nil ?_
  refine px_then ?_
  refine wc_seq ?_
  refine wc_region_a0 6 mo_ rfl ?_
  refine wa_take 0 rfl (by kernel_rfl) (by kernel_rfl) (by kernel_rfl) (by kernel_rfl) (fun _ h => h.dropN 0 rfl) gd_none rfl (val_move (lk rfl)) ?_
  refine wa_take 2 rfl (by kernel_rfl) (by kernel_rfl) (by kernel_rfl) (by kernel_rfl) (fun _ h => h.dropN 0 rfl) gd_none rfl (val_loadB (.head _) (lk rfl) ag_31) ?_
  refine wa_grp2 1 8 3 10 (fun _ h => h.dropN 0 rfl) (by kernel_rfl) (by decide) rfl rfl (ops_callx rfl rfl ci_39 (args1 (lk rfl)) (fun w1 hw => copyUsageRecord_c rs _ _ _ _ w1 (hs.hp hw rfl) hl) (fun _ => rfl)) (ops_bslice rfl (partsC (lk rfl) parts0) (bsl_24_1_0 _ _ _ _) rfl) ?_
  rintro _ _ ⟨⟨gb8, gc8, gs8⟩, ⟨hgl8, hgc8⟩, rfl, rfl⟩ _ _ ⟨b2, rfl, rfl⟩
  refine wa_only 4 (by kernel_rfl) rfl ?_
  refine wl_appendR encU_len (by decide) rs [r] 1 es_24 zc_31 rfl eb_31 (lk rfl) rfl hgl8 hgc8 (lk rfl) (fun _ hw => Sl.own' (vs := flat encU [r]) hw (.head _)) (by first | omega | (simp only [List.length_nil]; omega) | (simp only [List.length_cons, List.length_nil]; omega)) (by first | omega | (simp only [List.length_nil]; omega) | (simp only [List.length_cons, List.length_nil]; omega)) rfl fun a11 ac11 as11 hal11 ham11 => ?_
  refine wl_nil (px_qn (fun _ h => h.dropN 2 rfl) ?_)
  refine wa_take 5 rfl (by kernel_rfl) (by kernel_rfl) (by kernel_rfl) (by kernel_rfl) (fun _ h => h.dropN 2 rfl) gd_none rfl (val_assign (lk rfl)) ?_
  refine wa_done (by kernel_rfl) ?_
  refine px_then ?_
  refine wc_seq ?_
  refine wc_seq ?_
  refine wc_region ?_
  refine wl_v rfl (val_move (lk rfl)) ?_
  refine wl_call gd_none rfl ci_14 (args1 (lk rfl)) (fun hG w1 hw => OkAll_c (rs ++ [r]) _ _ _ _ w1 (Sl.own hw (.head _)) (by simp only [List.length_append, List.length_cons, List.length_nil]; omega)) ?_
  refine wl_v rfl (val_not (lk rfl)) ?_
  refine wl_nil ?_
  refine px_then ?_
  refine wc_cond (lk rfl) (fun hc0 => ?_) (fun hc0 => ?_)
  · have hcc : okAll (rs ++ [r]) = false := by simpa using hc0
    have hap : appU rs r = rs := by rw [appU, hcc]; rfl
    refine wc_seq ?_
    refine wc_region ?_
    refine wl_v rfl (val_move (lk rfl)) ?_
    refine wl_callx rfl ci_39 (args1 (lk rfl)) (fun w1 hw => copyUsageRecord_c rs _ _ _ _ w1 (hs.hp hw rfl) hl) (fun _ => rfl) ?_
    rintro ⟨gb16, gc16, gs16⟩ ⟨hgl16, hgc16⟩
    refine wl_v rfl (val_assign (lk rfl)) ?_
    refine wl_v rfl (val_assign lkc) ?_
    refine wl_nil ?_
    refine px_then ?_
    refine wc_ret ?_
    refine px_then_ret ?_
    refine fin2 rfl (res_tmp rfl) (res_tmp rfl) (fun w1 hw => ?_)
    rw [hap, hcc]
    exact ⟨(gb16, gc16, gs16), ⟨hgl16, hgc16⟩, rfl, hw.mask [true, false, false, false] rfl⟩
  have hcc : okAll (rs ++ [r]) = true := by simpa using hc0
  have hap : appU rs r = rs ++ [r] := by rw [appU, hcc]; rfl
  refine wc_skip ?_
  refine px_then ?_
  refine wc_seq ?_
  refine wc_region ?_
  refine wl_v rfl (val_move (lk rfl)) ?_
  refine wl_v rfl (val_assign (lk rfl)) ?_
  refine wl_v rfl (val_assign lkc) ?_
  refine wl_nil ?_
  refine px_then ?_
  refine wc_ret ?_
  refine fin2 rfl (res_tmp rfl) (res_tmp rfl) (fun w1 hw => ?_)
  rw [hap, hcc]
  exact ⟨(a11, ac11, as11), ⟨hal11, ham11⟩, rfl, hw.mask [true, false, false] rfl⟩


theorem of_not_neg {G : Bool} {z : Int} {x : Bool} (h : (G && !(x || decide (z < 0))) = true) : 0 ≤ z := by
  simp at h
  omega

theorem sDisp_c (own told : List Rec) (A A2 : Option Addr) (b o c b2 o2 c2 : Nat) (vis : Int) (w : World) (hs1 : Sl w A b o (flat encU own)) (hs : Sl w A2 b2 o2 (flat encU told)) (hl1 : own.length ≤ 1048576) (hl : told.length ≤ 1048576) :
    Calls Try.prog 23 #[.slice A own.length c, .slice A2 told.length c2, .int .i64 vis] w fun e w' => ∃ x : Nat × Nat × List Value, ((flat encU (dispU own told vis told.length) ++ x.2.2).length = x.2.1 * 4 ∧ x.2.1 ≤ 9223372036854775807) ∧ e = .returned (.slice (some ⟨x.1, 0, none⟩) (dispU own told vis told.length).length x.2.1) ∧ HP w [⟨x.1, true, 31, flat encU (dispU own told vis told.length) ++ x.2.2⟩] w' := by
  refine calls_entry [] _ Try.func23 rfl Try.ntmps23 (HP.refl w) (env3 rfl) ?_
  refine wc_seq ?_
  refine wc_region ?_
  refine wl_v rfl (val_assign lkc) ?_
  refine wl_nil ?_
  refine px_then ?_
  refine wc_seq ?_
  refine wc_region ?_
  refine wl_bslice parts0 bsl_24_0_ rfl fun b1 => ?_
  refine wl_v rfl (val_assign (lk rfl)) ?_
  refine wl_nil ?_
  refine px_then ?_
  refine wc_seq ?_
  refine wc_seq ?_
  refine wc_region ?_
  refine wl_v rfl (val_assign lkc) ?_
  refine wl_nil ?_
  refine px_then ?_
  refine wc_block ?_
  refine wc_trim (l' := [(0, _), (1, _), (2, _), (6, _), (7, _), (8, _)]) ⟨rfl, rfl, rfl, rfl, rfl, rfl, trivial⟩ ?_
  refine wc_loopl (X := Nat × Nat × Nat × List Value) (fun x => x.1 ≤ told.length ∧ (flat encU (dispU own told vis x.1) ++ x.2.2.2).length = x.2.2.1 * 4 ∧ x.2.2.1 ≤ 9223372036854775807) (fun x => [(7, (true, .slice (some ⟨x.2.1, 0, none⟩) (dispU own told vis x.1).length x.2.2.1)), (8, (true, .int .i64 (x.1 : Nat)))]) (fun x => [⟨x.2.1, true, 31, flat encU (dispU own told vis x.1) ++ x.2.2.2⟩]) (fun x => told.length - x.1) (0, b1, 0, []) (⟨Nat.zero_le _, rfl, Nat.zero_le _⟩) ⟨rfl, rfl, rfl, rfl, rfl, rfl, rfl, rfl, trivial⟩ (fun _ h => h) ?_
  rintro ⟨k, gb, gc, gs⟩ ⟨hk, hgl, hgc⟩
  refine wc_seq ?_
  refine wc_seq ?_
  refine wc_region ?_
  refine wl_v rfl (val_move (lk rfl)) ?_
  refine wl_v rfl (val_move (lk rfl)) ?_
  refine wl_v rfl (val_len es_24 (lk rfl)) ?_
  refine wl_v rfl (val_lss (lk rfl) (lk rfl)) ?_
  refine wl_nil ?_
  refine px_then ?_
  refine wc_cond (lk rfl) (fun hc0 => ?_) (fun hc0 => ?_)
  · have hlt : k < told.length := by have := of_decide_eq_true hc0; omega
    refine wc_skip ?_
    refine px_then ?_
    refine wc_seq ?_
    refine wc_block ?_
    refine wc_seq ?_
    refine wc_region ?_
    refine wl_v rfl (val_move (lk rfl)) ?_
    refine wl_v rfl (val_move (lk rfl)) ?_
    refine wl_v rfl (val_move (lk rfl)) ?_
    refine wl_v rfl (val_index es_24 (lk rfl) (lk rfl) (fun hG => hs.hd encU_len (by decide) (i := k) hlt) (fun hG => hlt)) ?_
    refine wl_v rfl (val_loadN ag_31 (lk rfl) rfl (hs.rec_ rfl encU_len d0U (fun _ => hlt))) ?_
    refine wl_call gd_none rfl ci_24 (args2 (lk rfl) (lk rfl)) (fun hG w1 hw => sFindU_c own _ _ _ _ (nth d0U told k) w1 (hs1.hp hw rfl) (by omega)) ?_
    refine wl_v rfl (val_assign (lk rfl)) ?_
    refine wl_nil ?_
    refine px_then ?_
    refine wc_seq ?_
    refine wc_region_q mo_ (by kernel_rfl) ?_
    refine wq_v rfl (val_move (lk rfl)) ?_
    refine wq_v rfl (val_move (lk rfl)) ?_
    refine wq_v rfl (val_index es_24 (lk rfl) (lk rfl) (fun hG => hs.hd encU_len (by decide) (i := k) hlt) (fun hG => hlt)) ?_
    refine wq_v rfl (val_field fo_31_0 (lk rfl)) ?_
    refine wq_v rfl (val_load1 t1_3 (lk rfl) (cell_old rfl fun hG => hs.fld encU_len d0U (i := k) (f := 0) (hlt) (by decide) rfl)) ?_
    refine wq_v rfl (val_move (lk rfl)) ?_
    refine wq_v rfl (val_eql (lk rfl) (lk rfl)) ?_
    refine wq_v rfl (val_move (lk rfl)) ?_
    refine wq_val (gd_t rfl rfl rfl) rfl (val_move (lk rfl)) ?_
    refine wq_val (gd_t rfl rfl rfl) rfl (val_move (lk rfl)) ?_
    refine wq_val (gd_t rfl rfl rfl) rfl (val_move (lk rfl)) ?_
    refine wq_val (gd_t rfl rfl rfl) rfl (val_index es_24 (lkg rfl) (lkg rfl) (fun hG => hs.hd encU_len (by decide) (i := k) hlt) (fun hG => hlt)) ?_
    refine wq_val (gd_t rfl rfl rfl) rfl (val_loadN ag_31 (lkg rfl) rfl (hs.rec_ rfl encU_len d0U (fun _ => hlt))) ?_
    refine wq_call (gd_t rfl rfl rfl) rfl ci_24 (args2 (lkg rfl) (lkg rfl)) (fun hG w1 hw => sFindU_c told _ _ _ _ (nth d0U told k) w1 (hs.hp hw rfl) (by omega)) ?_
    refine wq_val (gd_t rfl rfl rfl) rfl (val_move (lk rfl)) ?_
    refine wq_val (gd_t rfl rfl rfl) rfl (val_neq (lkg rfl) (lkg rfl)) ?_
    refine wq_val (gd_t rfl rfl rfl) rfl (val_move (lkg rfl)) ?_
    refine wq_val (gd_gf rfl rfl rfl) rfl (val_move (lk rfl)) ?_
    refine wq_val (gd_gf rfl rfl rfl) rfl (val_lss (lkg rfl) lkc) ?_
    refine wq_val (gd_t rfl rfl rfl) rfl (val_or (lkg rfl) (lkg rfl)) ?_
    refine wq_val (gd_t rfl rfl rfl) rfl (val_move (lkg rfl)) ?_
    refine wq_val (gd_gf rfl rfl rfl) rfl (val_move (lk rfl)) ?_
    refine wq_val (gd_gf rfl rfl rfl) rfl (val_move (lk rfl)) ?_
    refine wq_val (gd_gf rfl rfl rfl) rfl (val_indexI es_24 (lkg rfl) (lkg rfl) (fun hG => hs1.hd encU_len (by decide) (i := (findU own (nth d0U told k)).toNat) (findU_lt (by simp at hG; omega)).1) (fun hG => ⟨(by simp at hG; omega), (findU_lt (by simp at hG; omega)).2⟩)) ?_
    refine wq_val (gd_gf rfl rfl rfl) rfl (val_field fo_31_3 (lkg rfl)) ?_
    refine wq_val (gd_gf rfl rfl rfl) rfl (val_load1 t1_3 (lkg rfl) (cell_old rfl fun hG => hs1.fld encU_len d0U (i := (findU own (nth d0U told k)).toNat) (f := 3) (findU_lt (by simp at hG; omega)).1 (by decide) rfl)) ?_
    refine wq_val (gd_gf rfl rfl rfl) rfl (val_move (lk rfl)) ?_
    refine wq_val (gd_gf rfl rfl rfl) rfl (val_move (lk rfl)) ?_
    refine wq_val (gd_gf rfl rfl rfl) rfl (val_index es_24 (lkg rfl) (lkg rfl) (fun hG => hs.hd encU_len (by decide) (i := k) hlt) (fun hG => hlt)) ?_
    refine wq_val (gd_gf rfl rfl rfl) rfl (val_field fo_31_3 (lkg rfl)) ?_
    refine wq_val (gd_gf rfl rfl rfl) rfl (val_load1 t1_3 (lkg rfl) (cell_old rfl fun hG => hs.fld encU_len d0U (i := k) (f := 3) (hlt) (by decide) rfl)) ?_
    refine wq_val (gd_gf rfl rfl rfl) rfl (val_lss (lkg rfl) (lkg rfl)) ?_
    refine wq_val (gd_t rfl rfl rfl) rfl (val_or (lkg rfl) (lkg rfl)) ?_
    refine wq_v rfl (val_and (lk rfl) (lkg rfl)) ?_
    refine wq_nil ?_
    refine px_then ?_
    refine wc_cond (lk rfl) (fun hc1 => ?_) (fun hc1 => ?_)
    · have hdk := dispU_len own told vis k
      have hst : dispU own told vis (k + 1) = dispU own told vis k ++ [nth d0U told k] := by rw [dispU, show dispAt own told vis k = _ from hc1]; rfl
      refine wc_region ?_
      refine wl_v rfl (val_move (lk rfl)) ?_
      refine wl_v rfl (val_move (lk rfl)) ?_
      refine wl_v rfl (val_move (lk rfl)) ?_
      refine wl_v rfl (val_index es_24 (lk rfl) (lk rfl) (fun hG => hs.hd encU_len (by decide) (i := k) hlt) (fun hG => hlt)) ?_
      refine wl_v rfl (val_loadN ag_31 (lk rfl) rfl (hs.rec_ rfl encU_len d0U (fun _ => hlt))) ?_
      refine wl_bslice (partsC (lk rfl) parts0) (bsl_24_1_0 _ _ _ _) rfl fun b2 => ?_
      refine wl_appendR encU_len (by decide) (dispU own told vis k) [nth d0U told k] 1 es_24 zc_31 rfl eb_31 (lk rfl) rfl hgl hgc (lk rfl) (fun _ hw => Sl.own' (vs := flat encU [nth d0U told k]) hw (.head _)) (by first | omega | (simp only [List.length_nil]; omega) | (simp only [List.length_cons, List.length_nil]; omega)) (by first | omega | (simp only [List.length_nil]; omega) | (simp only [List.length_cons, List.length_nil]; omega)) rfl fun a63 ac63 as63 hal63 ham63 => ?_
      refine wl_v rfl (val_assign (lk rfl)) ?_
      refine wl_nil ?_
      refine px_block ?_
      refine px_then ?_
      refine wc_region ?_
      refine wl_v rfl (val_move (lk rfl)) ?_
      refine wl_v rfl (val_inc (lk rfl) (by omega)) ?_
      refine wl_v rfl (val_assign (lk rfl)) ?_
      refine wl_nil ?_
      refine px_round ((k + 1, a63, ac63, as63)) (⟨by show k + 1 ≤ _; omega, by show (flat encU (dispU own told vis (k + 1)) ++ _).length = _; rw [hst]; exact hal63, ham63⟩) (by show told.length - (k + 1) < told.length - k; omega) (⟨slotS (congrArg List.length hst.symm), rfl, rfl, rfl, rfl, rfl, slotS (congrArg List.length hst.symm), rfl, trivial⟩) (fun w1 h => by
        have h2 := h.mask [true, false] rfl
        show HP w [⟨_, true, 31, flat encU (dispU own told vis (k + 1)) ++ _⟩] w1
        rw [hst]
        exact h2)
    have hst : dispU own told vis (k + 1) = dispU own told vis k := by rw [dispU, show dispAt own told vis k = _ from hc1]; rfl
    refine wc_skip ?_
    refine px_block ?_
    refine px_then ?_
    refine wc_region ?_
    refine wl_v rfl (val_move (lk rfl)) ?_
    refine wl_v rfl (val_inc (lk rfl) (by omega)) ?_
    refine wl_v rfl (val_assign (lk rfl)) ?_
    refine wl_nil ?_
    refine px_round ((k + 1, gb, gc, gs)) (⟨by show k + 1 ≤ _; omega, by show (flat encU (dispU own told vis (k + 1)) ++ _).length = _; rw [hst]; exact hgl, hgc⟩) (by show told.length - (k + 1) < told.length - k; omega) (⟨slotS (congrArg List.length hst.symm), rfl, rfl, rfl, rfl, rfl, slotS (congrArg List.length hst.symm), rfl, trivial⟩) (fun w1 h => by
      have h2 := h.mask [true] rfl
      show HP w [⟨_, true, 31, flat encU (dispU own told vis (k + 1)) ++ _⟩] w1
      rw [hst]
      exact h2)
  have hge : k = told.length := by have := of_decide_eq_false hc0; omega
  subst hge
  refine wc_exit ?_
  refine px_then_exit ?_
  refine px_then_exit ?_
  refine px_block_exit ?_
  refine px_then ?_
  refine wc_seq ?_
  refine wc_region ?_
  refine wl_v rfl (val_move (lk rfl)) ?_
  refine wl_v rfl (val_assign (lk rfl)) ?_
  refine wl_nil ?_
  refine px_then ?_
  refine wc_ret ?_
  refine fin1 rfl (res_tmp rfl) (fun w1 hw => ?_)
  exact ⟨(gb, gc, gs), ⟨hgl, hgc⟩, rfl, hw.mask [true] rfl⟩

theorem Disp_c (own told : List Rec) (A A2 : Option Addr) (b o c b2 o2 c2 : Nat) (vis : Int) (w : World) (hs1 : Sl w A b o (flat encU own)) (hs : Sl w A2 b2 o2 (flat encU told)) (hl1 : own.length ≤ 1048576) (hl : told.length ≤ 1048576) :
    Calls Try.prog 21 #[.slice A own.length c, .slice A2 told.length c2, .int .i64 vis] w fun e w' => ∃ x : Nat × Nat × List Value, ((flat encU (dispU own told vis told.length) ++ x.2.2).length = x.2.1 * 4 ∧ x.2.1 ≤ 9223372036854775807) ∧ e = .returned (.slice (some ⟨x.1, 0, none⟩) (dispU own told vis told.length).length x.2.1) ∧ HP w [⟨x.1, true, 31, flat encU (dispU own told vis told.length) ++ x.2.2⟩] w' := by
  refine calls_entry [] _ Try.func21 rfl Try.ntmps21 (HP.refl w) (env3 rfl) ?_
  refine wc_seq ?_
  refine wc_region ?_
  refine wl_v rfl (val_assign lkc) ?_
  refine wl_nil ?_
  refine px_then ?_
  refine wc_seq ?_
  refine wc_region ?_
  refine wl_bslice parts0 bsl_24_0_ rfl fun b1 => ?_
  refine wl_v rfl (val_assign (lk rfl)) ?_
  refine wl_nil ?_
  refine px_then ?_
  refine wc_seq ?_
  refine wc_seq ?_
  refine wc_region ?_
  refine wl_v rfl (val_move (lk rfl)) ?_
  refine wl_v rfl (val_len es_24 (lk rfl)) ?_
  refine wl_v rfl (val_move lkc) ?_
  refine wl_nil ?_
  refine px_then ?_
  refine wc_block ?_
  refine wc_trim (l' := [(0, _), (1, _), (2, _), (6, _), (7, _), (12, _), (13, _), (14, _)]) ⟨rfl, rfl, rfl, rfl, rfl, rfl, rfl, rfl, trivial⟩ ?_
  refine wc_loopl (X := Nat × Nat × Nat × List Value) (fun x => x.1 ≤ told.length ∧ (flat encU (dispU own told vis x.1) ++ x.2.2.2).length = x.2.2.1 * 4 ∧ x.2.2.1 ≤ 9223372036854775807) (fun x => [(7, (true, .slice (some ⟨x.2.1, 0, none⟩) (dispU own told vis x.1).length x.2.2.1)), (14, (true, .int .i64 (x.1 : Nat)))]) (fun x => [⟨x.2.1, true, 31, flat encU (dispU own told vis x.1) ++ x.2.2.2⟩]) (fun x => told.length - x.1) (0, b1, 0, []) (⟨Nat.zero_le _, rfl, Nat.zero_le _⟩) ⟨rfl, rfl, rfl, rfl, rfl, rfl, rfl, rfl, rfl, rfl, trivial⟩ (fun _ h => h) ?_
  rintro ⟨k, gb, gc, gs⟩ ⟨hk, hgl, hgc⟩
  refine wc_seq ?_
  refine wc_region ?_
  refine wl_v rfl (val_lss (lk rfl) (lk rfl)) ?_
  refine wl_nil ?_
  refine px_then ?_
  refine wc_seq ?_
  refine wc_cond (lk rfl) (fun hc0 => ?_) (fun hc0 => ?_)
  · have hlt : k < told.length := by have := of_decide_eq_true hc0; omega
    refine wc_skip ?_
    refine px_then ?_
    refine wc_seq ?_
    refine wc_block ?_
    refine wc_seq ?_
    refine wc_region ?_
    refine wl_v rfl (val_move (lk rfl)) ?_
    refine wl_v rfl (val_index es_24 (lk rfl) (lk rfl) (fun hG => hs.hd encU_len (by decide) (i := k) hlt) (fun hG => hlt)) ?_
    refine wl_v rfl (val_loadN ag_31 (lk rfl) rfl (hs.rec_ rfl encU_len d0U (fun _ => hlt))) ?_
    refine wl_alloc zc_31 rfl fun b2 => ?_
    refine wl_v rfl (val_assign (lk rfl)) ?_
    refine wl_storeB 0 rfl (lk rfl) (lk rfl) ag_31 rfl rfl ?_
    refine wl_nil ?_
    refine px_then ?_
    refine wc_seq ?_
    refine wc_seq ?_
    refine wc_region ?_
    refine wl_v rfl (val_field fo_31_0 (lk rfl)) ?_
    refine wl_v rfl (val_load1 t1_3 (lk rfl) (cell_own (.head _) fun _ => rfl)) ?_
    refine wl_v rfl (val_move (lk rfl)) ?_
    refine wl_v rfl (val_neq (lk rfl) (lk rfl)) ?_
    refine wl_nil ?_
    refine px_then ?_
    refine wc_cond (lk rfl) (fun hc1 => ?_) (fun hc1 => ?_)
    · have hst : dispU own told vis (k + 1) = dispU own told vis k := by rw [dispU, disp_no hc1]; rfl
      refine wc_exit ?_
      refine px_then_exit ?_
      refine px_block_exit ?_
      refine px_then ?_
      refine wc_region ?_
      refine wl_v rfl (val_inc (lk rfl) (by omega)) ?_
      refine wl_v rfl (val_move (lk rfl)) ?_
      refine wl_nil ?_
      refine px_round ((k + 1, gb, gc, gs)) (⟨by show k + 1 ≤ _; omega, by show (flat encU (dispU own told vis (k + 1)) ++ _).length = _; rw [hst]; exact hgl, hgc⟩) (by show told.length - (k + 1) < told.length - k; omega) (⟨slotS (congrArg List.length hst.symm), rfl, rfl, rfl, rfl, rfl, slotS (congrArg List.length hst.symm), rfl, rfl, rfl, trivial⟩) (fun w1 h => by
        have h2 := h.mask [false, true] rfl
        show HP w [⟨_, true, 31, flat encU (dispU own told vis (k + 1)) ++ _⟩] w1
        rw [hst]
        exact h2)
    refine wc_skip ?_
    refine px_then ?_
    refine wc_seq ?_
    refine wc_region ?_
    refine wl_v rfl (val_move (lk rfl)) ?_
    refine wl_v rfl (val_loadB (.head _) (lk rfl) ag_31) ?_
    refine wl_call gd_none rfl ci_13 (args2 (lk rfl) (lk rfl)) (fun hG w1 hw => FindU_c own _ _ _ _ (nth d0U told k) w1 (hs1.hp hw rfl) (by omega)) ?_
    refine wl_v rfl (val_assign (lk rfl)) ?_
    refine wl_nil ?_
    refine px_then ?_
    refine wc_seq ?_
    refine wc_region_q mo_ (by kernel_rfl) ?_
    refine wq_v rfl (val_move (lk rfl)) ?_
    refine wq_v rfl (val_loadB (.head _) (lk rfl) ag_31) ?_
    refine wq_call gd_none rfl ci_13 (args2 (lk rfl) (lk rfl)) (fun hG w1 hw => FindU_c told _ _ _ _ (nth d0U told k) w1 (hs.hp hw rfl) (by omega)) ?_
    refine wq_v rfl (val_move (lk rfl)) ?_
    refine wq_v rfl (val_neq (lk rfl) (lk rfl)) ?_
    refine wq_v rfl (val_move (lk rfl)) ?_
    refine wq_val (gd_f rfl rfl rfl) rfl (val_move (lk rfl)) ?_
    refine wq_val (gd_f rfl rfl rfl) rfl (val_lss (lkg rfl) lkc) ?_
    refine wq_v rfl (val_or (lk rfl) (lkg rfl)) ?_
    refine wq_v rfl (val_move (lk rfl)) ?_
    refine wq_val (gd_f rfl rfl rfl) rfl (val_move (lk rfl)) ?_
    refine wq_val (gd_f rfl rfl rfl) rfl (val_move (lk rfl)) ?_
    refine wq_val (gd_f rfl rfl rfl) rfl (val_indexI es_24 (lkg rfl) (lkg rfl) (fun hG => hs1.hd encU_len (by decide) (i := (findU own (nth d0U told k)).toNat) (findU_lt (by simp at hG; omega)).1) (fun hG => ⟨(by simp at hG; omega), (findU_lt (by simp at hG; omega)).2⟩)) ?_
    refine wq_val (gd_f rfl rfl rfl) rfl (val_field fo_31_3 (lkg rfl)) ?_
    refine wq_val (gd_f rfl rfl rfl) rfl (val_load1 t1_3 (lkg rfl) (cell_old rfl fun hG => hs1.fld encU_len d0U (i := (findU own (nth d0U told k)).toNat) (f := 3) (findU_lt (by simp at hG; omega)).1 (by decide) rfl)) ?_
    refine wq_val (gd_f rfl rfl rfl) rfl (val_field fo_31_3 (lk rfl)) ?_
    refine wq_val (gd_f rfl rfl rfl) rfl (val_load1 t1_3 (lkg rfl) (cell_own (.head _) fun _ => rfl)) ?_
    refine wq_val (gd_f rfl rfl rfl) rfl (val_lss (lkg rfl) (lkg rfl)) ?_
    refine wq_v rfl (val_or (lk rfl) (lkg rfl)) ?_
    refine wq_nil ?_
    refine px_then ?_
    refine wc_cond (lk rfl) (fun hc2 => ?_) (fun hc2 => ?_)
    · have hdk := dispU_len own told vis k
      have hst : dispU own told vis (k + 1) = dispU own told vis k ++ [nth d0U told k] := by rw [dispU, disp_eq hc1, hc2]; rfl
      refine wc_region ?_
      refine wl_v rfl (val_move (lk rfl)) ?_
      refine wl_v rfl (val_loadB (.head _) (lk rfl) ag_31) ?_
      refine wl_bslice (partsC (lk rfl) parts0) (bsl_24_1_0 _ _ _ _) rfl fun b3 => ?_
      refine wl_appendR encU_len (by decide) (dispU own told vis k) [nth d0U told k] 2 es_24 zc_31 rfl eb_31 (lk rfl) rfl hgl hgc (lk rfl) (fun _ hw => Sl.own' (vs := flat encU [nth d0U told k]) hw (.head _)) (by first | omega | (simp only [List.length_nil]; omega) | (simp only [List.length_cons, List.length_nil]; omega)) (by first | omega | (simp only [List.length_nil]; omega) | (simp only [List.length_cons, List.length_nil]; omega)) rfl fun a48 ac48 as48 hal48 ham48 => ?_
      refine wl_v rfl (val_assign (lk rfl)) ?_
      refine wl_nil ?_
      refine px_block ?_
      refine px_then ?_
      refine wc_region ?_
      refine wl_v rfl (val_inc (lk rfl) (by omega)) ?_
      refine wl_v rfl (val_move (lk rfl)) ?_
      refine wl_nil ?_
      refine px_round ((k + 1, a48, ac48, as48)) (⟨by show k + 1 ≤ _; omega, by show (flat encU (dispU own told vis (k + 1)) ++ _).length = _; rw [hst]; exact hal48, ham48⟩) (by show told.length - (k + 1) < told.length - k; omega) (⟨slotS (congrArg List.length hst.symm), rfl, rfl, rfl, rfl, rfl, slotS (congrArg List.length hst.symm), rfl, rfl, rfl, trivial⟩) (fun w1 h => by
        have h2 := h.mask [true, false, false] rfl
        show HP w [⟨_, true, 31, flat encU (dispU own told vis (k + 1)) ++ _⟩] w1
        rw [hst]
        exact h2)
    have hst : dispU own told vis (k + 1) = dispU own told vis k := by rw [dispU, disp_eq hc1, hc2]; rfl
    refine wc_skip ?_
    refine px_block ?_
    refine px_then ?_
    refine wc_region ?_
    refine wl_v rfl (val_inc (lk rfl) (by omega)) ?_
    refine wl_v rfl (val_move (lk rfl)) ?_
    refine wl_nil ?_
    refine px_round ((k + 1, gb, gc, gs)) (⟨by show k + 1 ≤ _; omega, by show (flat encU (dispU own told vis (k + 1)) ++ _).length = _; rw [hst]; exact hgl, hgc⟩) (by show told.length - (k + 1) < told.length - k; omega) (⟨slotS (congrArg List.length hst.symm), rfl, rfl, rfl, rfl, rfl, slotS (congrArg List.length hst.symm), rfl, rfl, rfl, trivial⟩) (fun w1 h => by
      have h2 := h.mask [false, true] rfl
      show HP w [⟨_, true, 31, flat encU (dispU own told vis (k + 1)) ++ _⟩] w1
      rw [hst]
      exact h2)
  have hge : k = told.length := by have := of_decide_eq_false hc0; omega
  subst hge
  refine wc_exit ?_
  refine px_then_exit ?_
  refine px_then_exit ?_
  refine px_block_exit ?_
  refine px_then ?_
  refine wc_seq ?_
  refine wc_region ?_
  refine wl_v rfl (val_move (lk rfl)) ?_
  refine wl_v rfl (val_assign (lk rfl)) ?_
  refine wl_nil ?_
  refine px_then ?_
  refine wc_ret ?_
  refine fin1 rfl (res_tmp rfl) (fun w1 hw => ?_)
  exact ⟨(gb, gc, gs), ⟨hgl, hgc⟩, rfl, hw.mask [true] rfl⟩

theorem Merge_c (own told : List Rec) (A A2 : Option Addr) (b o c b2 o2 c2 : Nat) (w : World) (hs1 : Sl w A b o (flat encU own)) (hs : Sl w A2 b2 o2 (flat encU told)) (hl1 : own.length ≤ 1048576) (hl : told.length ≤ 1048576) :
    Calls Try.prog 11 #[.slice A own.length c, .slice A2 told.length c2] w fun e w' => ∃ x : Nat × Nat × List Value, ((flat encU (mergeU own told told.length) ++ x.2.2).length = x.2.1 * 4 ∧ x.2.1 ≤ 9223372036854775807) ∧ e = .returned (.slice (some ⟨x.1, 0, none⟩) (mergeU own told told.length).length x.2.1) ∧ HP w [⟨x.1, true, 31, flat encU (mergeU own told told.length) ++ x.2.2⟩] w' := by
  refine calls_entry [] _ Try.func11 rfl Try.ntmps11 (HP.refl w) (env2 rfl) ?_
  refine wc_seq ?_
  refine wc_region ?_
  refine wl_v rfl (val_assign lkc) ?_
  refine wl_nil ?_
  refine px_then ?_
  refine wc_seq ?_
  refine wc_region ?_
  refine wl_v rfl (val_move (lk rfl)) ?_
  refine wl_callx rfl ci_39 (args1 (lk rfl)) (fun w1 hw => copyUsageRecord_c own _ _ _ _ w1 (hs1.hp hw rfl) hl1) (fun _ => rfl) ?_
  rintro ⟨gb9, gc9, gs9⟩ ⟨hgl9, hgc9⟩
  refine wl_v rfl (val_assign (lk rfl)) ?_
  refine wl_nil ?_
  refine px_then ?_
  refine wc_seq ?_
  refine wc_seq ?_
  refine wc_region ?_
  refine wl_v rfl (val_move (lk rfl)) ?_
  refine wl_v rfl (val_len es_24 (lk rfl)) ?_
  refine wl_v rfl (val_move lkc) ?_
  refine wl_nil ?_
  refine px_then ?_
  refine wc_block ?_
  refine wc_trim (l' := [(4, _), (5, _), (10, _), (11, _), (12, _)]) ⟨rfl, rfl, rfl, rfl, rfl, trivial⟩ ?_
  refine wc_loopl (X := Nat × Nat × Nat × List Value) (fun x => x.1 ≤ told.length ∧ (flat encU (mergeU own told x.1) ++ x.2.2.2).length = x.2.2.1 * 4 ∧ x.2.2.1 ≤ 9223372036854775807) (fun x => [(5, (true, .slice (some ⟨x.2.1, 0, none⟩) (mergeU own told x.1).length x.2.2.1)), (12, (true, .int .i64 (x.1 : Nat)))]) (fun x => [⟨x.2.1, true, 31, flat encU (mergeU own told x.1) ++ x.2.2.2⟩]) (fun x => told.length - x.1) (0, gb9, gc9, gs9) (⟨Nat.zero_le _, hgl9, hgc9⟩) ⟨rfl, rfl, rfl, rfl, rfl, rfl, rfl, trivial⟩ (fun _ h => h) ?_
  rintro ⟨k, gb, gc, gs⟩ ⟨hk, hgl, hgc⟩
  refine wc_seq ?_
  refine wc_region ?_
  refine wl_v rfl (val_lss (lk rfl) (lk rfl)) ?_
  refine wl_nil ?_
  refine px_then ?_
  refine wc_seq ?_
  refine wc_cond (lk rfl) (fun hc0 => ?_) (fun hc0 => ?_)
  · have hlt : k < told.length := by have := of_decide_eq_true hc0; omega
    refine wc_skip ?_
    refine px_then ?_
    refine wc_seq ?_
    refine wc_block ?_
    refine wc_seq ?_
    refine wc_region ?_
    refine wl_v rfl (val_index es_24 (lk rfl) (lk rfl) (fun hG => hs.hd encU_len (by decide) (i := k) hlt) (fun hG => hlt)) ?_
    refine wl_v rfl (val_loadN ag_31 (lk rfl) rfl (hs.rec_ rfl encU_len d0U (fun _ => hlt))) ?_
    refine wl_alloc zc_31 rfl fun b1 => ?_
    refine wl_storeB 0 rfl (lk rfl) (lk rfl) ag_31 rfl rfl ?_
    refine wl_nil ?_
    refine px_then ?_
    refine wc_region ?_
    refine wl_v rfl (val_move (lk rfl)) ?_
    refine wl_v rfl (val_loadB (.head _) (lk rfl) ag_31) ?_
    refine wl_callx rfl ci_16 (args2 (lk rfl) (lk rfl)) (fun w1 hw => App_c (mergeU own told k) _ _ _ _ (nth d0U told k) w1 (Sl.own hw (.tail _ (.head _))) (mergeU_len own told hl1 k)) (fun _ => rfl) ?_
    rintro ⟨gb19, gc19, gs19⟩ ⟨hgl19, hgc19⟩
    refine wl_v rfl (val_move (lk rfl)) ?_
    refine wl_v rfl (val_extract (lk rfl) rfl) ?_
    refine wl_v rfl (val_extract (lk rfl) rfl) ?_
    refine wl_v rfl (val_assign (lk rfl)) ?_
    refine wl_nil ?_
    refine px_block ?_
    refine px_then ?_
    refine wc_region ?_
    refine wl_v rfl (val_inc (lk rfl) (by omega)) ?_
    refine wl_v rfl (val_move (lk rfl)) ?_
    refine wl_nil ?_
    refine px_round ((k + 1, gb19, gc19, gs19)) (⟨by show k + 1 ≤ _; omega, hgl19, hgc19⟩) (by show told.length - (k + 1) < told.length - k; omega) (⟨rfl, rfl, rfl, rfl, rfl, rfl, rfl, trivial⟩) (fun _ h => h.mask [true, false, false] rfl)
  have hge : k = told.length := by have := of_decide_eq_false hc0; omega
  subst hge
  refine wc_exit ?_
  refine px_then_exit ?_
  refine px_then_exit ?_
  refine px_block_exit ?_
  refine px_then ?_
  refine wc_seq ?_
  refine wc_region ?_
  refine wl_v rfl (val_move (lk rfl)) ?_
  refine wl_v rfl (val_assign (lk rfl)) ?_
  refine wl_nil ?_
  refine px_then ?_
  refine wc_ret ?_
  refine fin1 rfl (res_tmp rfl) (fun w1 hw => ?_)
  exact ⟨(gb, gc, gs), ⟨hgl, hgc⟩, rfl, hw.mask [true] rfl⟩

end Go.Proofs.Ytcdinidpclmmeaa
