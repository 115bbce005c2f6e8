/- Records: the functions that make lists, and the laws on them, walked. -/
import Derived.Test.YtjcenklebamjpaaSxO
import Derived.Test.YtjcenklebamjpaaSxH
namespace Go.Proofs.Ytjcenklebamjpaa
open Go.RowKit

theorem sCopyU_c (rs : List Rec) (A : Option Addr) (b o c : Nat) (w : World) (hs : Sl w A b o (flat encU rs)) (hl : rs.length ≤ 1048576) :
    Calls Try.prog 56 #[.slice A rs.length c] w fun e w' => ∃ x : Nat × Nat × List Value, ((flat encU (rs) ++ x.2.2).length = x.2.1 * 4 ∧ x.2.1 ≤ 9223372036854775807) ∧ e = .returned (.slice (some ⟨x.1, 0, none⟩) (rs).length x.2.1) ∧ HP w [⟨x.1, true, 31, flat encU (rs) ++ x.2.2⟩] w' := by
  refine calls_entry [] _ Try.func56 rfl Try.ntmps56 (HP.refl w) (env1 rfl) ?_
  refine wc_seq ?_
  refine wc_region ?_
  refine wl_v rfl (val_assign lkc) ?_
  refine wl_nil ?_
  refine px_then ?_
  refine wc_seq ?_
  refine wc_region ?_
  refine wl_bslice parts0 bsl_44_0_ rfl fun b1 => ?_
  refine wl_v rfl (val_move (lk rfl)) ?_
  refine wl_appendR (sp := []) encU_len (by decide) [] rs 0 es_44 zc_31 rfl eb_31 (lk rfl) rfl rfl (by decide) (lk rfl) (fun _ hw => hs.hp hw rfl) (by first | omega | (simp only [List.length_nil]; omega) | (simp only [List.length_cons, List.length_nil]; omega)) (by first | omega | (simp only [List.length_nil]; omega) | (simp only [List.length_cons, List.length_nil]; omega)) rfl fun a5 ac5 as5 hal5 ham5 => ?_
  refine wl_v rfl (val_assign (lk rfl)) ?_
  refine wl_nil ?_
  refine px_then ?_
  refine wc_ret ?_
  refine fin1 rfl (res_tmp rfl) (fun w1 hw => ?_)
  exact ⟨(a5, ac5, as5), ⟨hal5, ham5⟩, rfl, hw.mask [true] rfl⟩

theorem sApp_c (rs : List Rec) (A : Option Addr) (b o c : Nat) (r : Rec) (w : World) (hs : Sl w A b o (flat encU rs)) (hl : rs.length ≤ 1048576) :
    Calls Try.prog 41 #[.slice A rs.length c, .agg (recV encU r).toArray] w fun e w' => ∃ x : Nat × Nat × List Value, ((flat encU (appU rs r) ++ x.2.2).length = x.2.1 * 4 ∧ x.2.1 ≤ 9223372036854775807) ∧ e = .returned (.tuple #[.slice (some ⟨x.1, 0, none⟩) (appU rs r).length x.2.1, .bool (okAll (rs ++ [r]))]) ∧ HP w [⟨x.1, true, 31, flat encU (appU rs r) ++ x.2.2⟩] w' := by
  refine calls_entry [] _ Try.func41 rfl Try.ntmps41 (HP.refl w) (env2 rfl) ?_
  refine wc_seq ?_
  refine wc_region ?_
  refine wl_box (lk rfl) rfl fun b1 => ?_
  refine wl_v rfl (val_assign lkc) ?_
  refine wl_v rfl (val_assign lkc) ?_
  refine wl_nil ?_
  refine px_then ?_
  refine wc_seq ?_
  refine wc_region_a0 6 mo_ rfl ?_
  refine wa_take 0 rfl (by kernel_rfl) (by kernel_rfl) (by kernel_rfl) (fun _ h => h.dropN 0 rfl) gd_none rfl (val_move (lk rfl)) ?_
  refine wa_take 2 rfl (by kernel_rfl) (by kernel_rfl) (by kernel_rfl) (fun _ h => h.dropN 0 rfl) gd_none rfl (val_loadB (.head _) (lk rfl) ag_31) ?_
  refine wa_grp2 1 8 3 10 (fun _ h => h.dropN 0 rfl) (by kernel_rfl) (by decide) rfl rfl (ops_callx rfl rfl ci_56 (args1 (lk rfl)) (fun w1 hw => sCopyU_c rs _ _ _ _ w1 (hs.hp hw rfl) hl) (fun _ => rfl)) (ops_bslice rfl (partsC (lk rfl) parts0) (bsl_44_1_0 _ _ _ _) rfl) ?_
  rintro _ _ ⟨⟨gb8, gc8, gs8⟩, ⟨hgl8, hgc8⟩, rfl, rfl⟩ _ _ ⟨b2, rfl, rfl⟩
  refine wa_only 4 (by kernel_rfl) rfl ?_
  refine wl_appendR encU_len (by decide) rs [r] 1 es_44 zc_31 rfl eb_31 (lk rfl) rfl hgl8 hgc8 (lk rfl) (fun _ hw => Sl.own' (vs := flat encU [r]) hw (.head _)) (by first | omega | (simp only [List.length_nil]; omega) | (simp only [List.length_cons, List.length_nil]; omega)) (by first | omega | (simp only [List.length_nil]; omega) | (simp only [List.length_cons, List.length_nil]; omega)) rfl fun a11 ac11 as11 hal11 ham11 => ?_
  refine wl_nil (px_qn (fun _ h => h.dropN 2 rfl) ?_)
  refine wa_take 5 rfl (by kernel_rfl) (by kernel_rfl) (by kernel_rfl) (fun _ h => h.dropN 2 rfl) gd_none rfl (val_assign (lk rfl)) ?_
  refine wa_done (by kernel_rfl) ?_
  refine px_then ?_
  refine wc_seq ?_
  refine wc_seq ?_
  refine wc_region ?_
  refine wl_v rfl (val_move (lk rfl)) ?_
  refine wl_call gd_none rfl ci_33 (args1 (lk rfl)) (fun hG w1 hw => sOkAll_c (rs ++ [r]) _ _ _ _ w1 (Sl.own hw (.head _)) (by simp only [List.length_append, List.length_cons, List.length_nil]; omega) (cap_le encU_len (by decide) hal11)) ?_
  refine wl_v rfl (val_not (lk rfl)) ?_
  refine wl_nil ?_
  refine px_then ?_
  refine wc_cond (lk rfl) (fun hc0 => ?_) (fun hc0 => ?_)
  · have hcc : okAll (rs ++ [r]) = false := by simpa using hc0
    have hap : appU rs r = rs := by rw [appU, hcc]; rfl
    refine wc_seq ?_
    refine wc_region ?_
    refine wl_v rfl (val_move (lk rfl)) ?_
    refine wl_callx rfl ci_56 (args1 (lk rfl)) (fun w1 hw => sCopyU_c rs _ _ _ _ w1 (hs.hp hw rfl) hl) (fun _ => rfl) ?_
    rintro ⟨gb16, gc16, gs16⟩ ⟨hgl16, hgc16⟩
    refine wl_v rfl (val_assign (lk rfl)) ?_
    refine wl_v rfl (val_assign lkc) ?_
    refine wl_nil ?_
    refine px_then ?_
    refine wc_ret ?_
    refine px_then_ret ?_
    refine fin2 rfl (res_tmp rfl) (res_tmp rfl) (fun w1 hw => ?_)
    rw [hap, hcc]
    exact ⟨(gb16, gc16, gs16), ⟨hgl16, hgc16⟩, rfl, hw.mask [true, false, false, false] rfl⟩
  have hcc : okAll (rs ++ [r]) = true := by simpa using hc0
  have hap : appU rs r = rs ++ [r] := by rw [appU, hcc]; rfl
  refine wc_skip ?_
  refine px_then ?_
  refine wc_seq ?_
  refine wc_region ?_
  refine wl_v rfl (val_move (lk rfl)) ?_
  refine wl_v rfl (val_assign (lk rfl)) ?_
  refine wl_v rfl (val_assign lkc) ?_
  refine wl_nil ?_
  refine px_then ?_
  refine wc_ret ?_
  refine fin2 rfl (res_tmp rfl) (res_tmp rfl) (fun w1 hw => ?_)
  rw [hap, hcc]
  exact ⟨(a11, ac11, as11), ⟨hal11, ham11⟩, rfl, hw.mask [true, false, false] rfl⟩

theorem App_c (rs : List Rec) (A : Option Addr) (b o c : Nat) (r : Rec) (w : World) (hs : Sl w A b o (flat encU rs)) (hl : rs.length ≤ 1048576) :
    Calls Try.prog 42 #[.slice A rs.length c, .agg (recV encU r).toArray] w fun e w' => ∃ x : Nat × Nat × List Value, ((flat encU (appU rs r) ++ x.2.2).length = x.2.1 * 4 ∧ x.2.1 ≤ 9223372036854775807) ∧ e = .returned (.tuple #[.slice (some ⟨x.1, 0, none⟩) (appU rs r).length x.2.1, .bool (okAll (rs ++ [r]))]) ∧ HP w [⟨x.1, true, 31, flat encU (appU rs r) ++ x.2.2⟩] w' := by
  refine calls_entry [] _ Try.func42 rfl Try.ntmps42 (HP.refl w) (env2 rfl) ?_
  refine wc_seq ?_
  refine wc_region ?_
  refine wl_box (lk rfl) rfl fun b1 => ?_
  refine wl_v rfl (val_assign lkc) ?_
  refine wl_v rfl (val_assign lkc) ?_
  refine wl_nil ?_
  refine px_then ?_
  refine wc_seq ?_
  refine wc_region_a0 6 mo_ rfl ?_
  refine wa_take 0 rfl (by kernel_rfl) (by kernel_rfl) (by kernel_rfl) (fun _ h => h.dropN 0 rfl) gd_none rfl (val_move (lk rfl)) ?_
  refine wa_take 2 rfl (by kernel_rfl) (by kernel_rfl) (by kernel_rfl) (fun _ h => h.dropN 0 rfl) gd_none rfl (val_loadB (.head _) (lk rfl) ag_31) ?_
  refine wa_grp2 1 8 3 10 (fun _ h => h.dropN 0 rfl) (by kernel_rfl) (by decide) rfl rfl (ops_callx rfl rfl ci_57 (args1 (lk rfl)) (fun w1 hw => copyUsageRecord_c rs _ _ _ _ w1 (hs.hp hw rfl) hl) (fun _ => rfl)) (ops_bslice rfl (partsC (lk rfl) parts0) (bsl_44_1_0 _ _ _ _) rfl) ?_
  rintro _ _ ⟨⟨gb8, gc8, gs8⟩, ⟨hgl8, hgc8⟩, rfl, rfl⟩ _ _ ⟨b2, rfl, rfl⟩
  refine wa_only 4 (by kernel_rfl) rfl ?_
  refine wl_appendR encU_len (by decide) rs [r] 1 es_44 zc_31 rfl eb_31 (lk rfl) rfl hgl8 hgc8 (lk rfl) (fun _ hw => Sl.own' (vs := flat encU [r]) hw (.head _)) (by first | omega | (simp only [List.length_nil]; omega) | (simp only [List.length_cons, List.length_nil]; omega)) (by first | omega | (simp only [List.length_nil]; omega) | (simp only [List.length_cons, List.length_nil]; omega)) rfl fun a11 ac11 as11 hal11 ham11 => ?_
  refine wl_nil (px_qn (fun _ h => h.dropN 2 rfl) ?_)
  refine wa_take 5 rfl (by kernel_rfl) (by kernel_rfl) (by kernel_rfl) (fun _ h => h.dropN 2 rfl) gd_none rfl (val_assign (lk rfl)) ?_
  refine wa_done (by kernel_rfl) ?_
  refine px_then ?_
  refine wc_seq ?_
  refine wc_seq ?_
  refine wc_region ?_
  refine wl_v rfl (val_move (lk rfl)) ?_
  refine wl_call gd_none rfl ci_34 (args1 (lk rfl)) (fun hG w1 hw => OkAll_c (rs ++ [r]) _ _ _ _ w1 (Sl.own hw (.head _)) (by simp only [List.length_append, List.length_cons, List.length_nil]; omega)) ?_
  refine wl_v rfl (val_not (lk rfl)) ?_
  refine wl_nil ?_
  refine px_then ?_
  refine wc_cond (lk rfl) (fun hc0 => ?_) (fun hc0 => ?_)
  · have hcc : okAll (rs ++ [r]) = false := by simpa using hc0
    have hap : appU rs r = rs := by rw [appU, hcc]; rfl
    refine wc_seq ?_
    refine wc_region ?_
    refine wl_v rfl (val_move (lk rfl)) ?_
    refine wl_callx rfl ci_57 (args1 (lk rfl)) (fun w1 hw => copyUsageRecord_c rs _ _ _ _ w1 (hs.hp hw rfl) hl) (fun _ => rfl) ?_
    rintro ⟨gb16, gc16, gs16⟩ ⟨hgl16, hgc16⟩
    refine wl_v rfl (val_assign (lk rfl)) ?_
    refine wl_v rfl (val_assign lkc) ?_
    refine wl_nil ?_
    refine px_then ?_
    refine wc_ret ?_
    refine px_then_ret ?_
    refine fin2 rfl (res_tmp rfl) (res_tmp rfl) (fun w1 hw => ?_)
    rw [hap, hcc]
    exact ⟨(gb16, gc16, gs16), ⟨hgl16, hgc16⟩, rfl, hw.mask [true, false, false, false] rfl⟩
  have hcc : okAll (rs ++ [r]) = true := by simpa using hc0
  have hap : appU rs r = rs ++ [r] := by rw [appU, hcc]; rfl
  refine wc_skip ?_
  refine px_then ?_
  refine wc_seq ?_
  refine wc_region ?_
  refine wl_v rfl (val_move (lk rfl)) ?_
  refine wl_v rfl (val_assign (lk rfl)) ?_
  refine wl_v rfl (val_assign lkc) ?_
  refine wl_nil ?_
  refine px_then ?_
  refine wc_ret ?_
  refine fin2 rfl (res_tmp rfl) (res_tmp rfl) (fun w1 hw => ?_)
  rw [hap, hcc]
  exact ⟨(a11, ac11, as11), ⟨hal11, ham11⟩, rfl, hw.mask [true, false, false] rfl⟩


theorem of_not_neg {G : Bool} {z : Int} {x : Bool} (h : (G && !(x || decide (z < 0))) = true) : 0 ≤ z := by
  simp at h
  omega

theorem sDisp_c (own told : List Rec) (A A2 : Option Addr) (b o c b2 o2 c2 : Nat) (vis : Int) (w : World) (hs1 : Sl w A b o (flat encU own)) (hs : Sl w A2 b2 o2 (flat encU told)) (hl1 : own.length ≤ 1048576) (hl : told.length ≤ 1048576) :
    Calls Try.prog 37 #[.slice A own.length c, .slice A2 told.length c2, .int .i64 vis] w fun e w' => ∃ x : Nat × Nat × List Value, ((flat encU (dispU own told vis told.length) ++ x.2.2).length = x.2.1 * 4 ∧ x.2.1 ≤ 9223372036854775807) ∧ e = .returned (.slice (some ⟨x.1, 0, none⟩) (dispU own told vis told.length).length x.2.1) ∧ HP w [⟨x.1, true, 31, flat encU (dispU own told vis told.length) ++ x.2.2⟩] w' := by
  refine calls_entry [] _ Try.func37 rfl Try.ntmps37 (HP.refl w) (env3 rfl) ?_
  refine wc_seq ?_
  refine wc_region ?_
  refine wl_v rfl (val_assign lkc) ?_
  refine wl_nil ?_
  refine px_then ?_
  refine wc_seq ?_
  refine wc_region ?_
  refine wl_bslice parts0 bsl_44_0_ rfl fun b1 => ?_
  refine wl_v rfl (val_assign (lk rfl)) ?_
  refine wl_nil ?_
  refine px_then ?_
  refine wc_seq ?_
  refine wc_seq ?_
  refine wc_region ?_
  refine wl_v rfl (val_assign lkc) ?_
  refine wl_nil ?_
  refine px_then ?_
  refine wc_block ?_
  refine wc_trim (l' := [(0, _), (1, _), (2, _), (6, _), (7, _), (8, _)]) ⟨rfl, rfl, rfl, rfl, rfl, rfl, trivial⟩ ?_
  refine wc_loopl (X := Nat × Nat × Nat × List Value) (fun x => x.1 ≤ told.length ∧ (flat encU (dispU own told vis x.1) ++ x.2.2.2).length = x.2.2.1 * 4 ∧ x.2.2.1 ≤ 9223372036854775807) (fun x => [(7, (true, .slice (some ⟨x.2.1, 0, none⟩) (dispU own told vis x.1).length x.2.2.1)), (8, (true, .int .i64 (x.1 : Nat)))]) (fun x => [⟨x.2.1, true, 31, flat encU (dispU own told vis x.1) ++ x.2.2.2⟩]) (fun x => told.length - x.1) (0, b1, 0, []) (⟨Nat.zero_le _, rfl, Nat.zero_le _⟩) ⟨rfl, rfl, rfl, rfl, rfl, rfl, rfl, rfl, trivial⟩ (fun _ h => h) ?_
  rintro ⟨k, gb, gc, gs⟩ ⟨hk, hgl, hgc⟩
  refine wc_seq ?_
  refine wc_seq ?_
  refine wc_region ?_
  refine wl_v rfl (val_move (lk rfl)) ?_
  refine wl_v rfl (val_move (lk rfl)) ?_
  refine wl_v rfl (val_len es_44 (lk rfl)) ?_
  refine wl_v rfl (val_lss (lk rfl) (lk rfl)) ?_
  refine wl_nil ?_
  refine px_then ?_
  refine wc_cond (lk rfl) (fun hc0 => ?_) (fun hc0 => ?_)
  · have hlt : k < told.length := by have := of_decide_eq_true hc0; omega
    refine wc_skip ?_
    refine px_then ?_
    refine wc_seq ?_
    refine wc_block ?_
    refine wc_seq ?_
    refine wc_region ?_
    refine wl_v rfl (val_move (lk rfl)) ?_
    refine wl_v rfl (val_move (lk rfl)) ?_
    refine wl_v rfl (val_move (lk rfl)) ?_
    refine wl_v rfl (val_index es_44 (lk rfl) (lk rfl) (fun hG => hs.hd encU_len (by decide) (i := k) hlt) (fun hG => hlt)) ?_
    refine wl_v rfl (val_loadN ag_31 (lk rfl) rfl (hs.rec_ rfl encU_len d0U (fun _ => hlt))) ?_
    refine wl_call gd_none rfl ci_31 (args2 (lk rfl) (lk rfl)) (fun hG w1 hw => sFindU_c own _ _ _ _ (nth d0U told k) w1 (hs1.hp hw rfl) (by omega)) ?_
    refine wl_v rfl (val_assign (lk rfl)) ?_
    refine wl_nil ?_
    refine px_then ?_
    refine wc_seq ?_
    refine wc_region_q mo_ (by kernel_rfl) ?_
    refine wq_v rfl (val_move (lk rfl)) ?_
    refine wq_v rfl (val_move (lk rfl)) ?_
    refine wq_v rfl (val_index es_44 (lk rfl) (lk rfl) (fun hG => hs.hd encU_len (by decide) (i := k) hlt) (fun hG => hlt)) ?_
    refine wq_v rfl (val_field fo_31_0 (lk rfl)) ?_
    refine wq_v rfl (val_load1 t1_3 (lk rfl) (cell_old rfl fun hG => hs.fld encU_len d0U (i := k) (f := 0) (hlt) (by decide) rfl)) ?_
    refine wq_v rfl (val_move (lk rfl)) ?_
    refine wq_v rfl (val_eql (lk rfl) (lk rfl)) ?_
    refine wq_v rfl (val_move (lk rfl)) ?_
    refine wq_val (gd_t rfl rfl rfl) rfl (val_move (lk rfl)) ?_
    refine wq_val (gd_t rfl rfl rfl) rfl (val_move (lk rfl)) ?_
    refine wq_val (gd_t rfl rfl rfl) rfl (val_move (lk rfl)) ?_
    refine wq_val (gd_t rfl rfl rfl) rfl (val_index es_44 (lkg rfl) (lkg rfl) (fun hG => hs.hd encU_len (by decide) (i := k) hlt) (fun hG => hlt)) ?_
    refine wq_val (gd_t rfl rfl rfl) rfl (val_loadN ag_31 (lkg rfl) rfl (hs.rec_ rfl encU_len d0U (fun _ => hlt))) ?_
    refine wq_call (gd_t rfl rfl rfl) rfl ci_31 (args2 (lkg rfl) (lkg rfl)) (fun hG w1 hw => sFindU_c told _ _ _ _ (nth d0U told k) w1 (hs.hp hw rfl) (by omega)) ?_
    refine wq_val (gd_t rfl rfl rfl) rfl (val_move (lk rfl)) ?_
    refine wq_val (gd_t rfl rfl rfl) rfl (val_neq (lkg rfl) (lkg rfl)) ?_
    refine wq_val (gd_t rfl rfl rfl) rfl (val_move (lkg rfl)) ?_
    refine wq_val (gd_gf rfl rfl rfl) rfl (val_move (lk rfl)) ?_
    refine wq_val (gd_gf rfl rfl rfl) rfl (val_lss (lkg rfl) lkc) ?_
    refine wq_val (gd_t rfl rfl rfl) rfl (val_or (lkg rfl) (lkg rfl)) ?_
    refine wq_val (gd_t rfl rfl rfl) rfl (val_move (lkg rfl)) ?_
    refine wq_val (gd_gf rfl rfl rfl) rfl (val_move (lk rfl)) ?_
    refine wq_val (gd_gf rfl rfl rfl) rfl (val_move (lk rfl)) ?_
    refine wq_val (gd_gf rfl rfl rfl) rfl (val_indexI es_44 (lkg rfl) (lkg rfl) (fun hG => hs1.hd encU_len (by decide) (i := (findU own (nth d0U told k)).toNat) (findU_lt (by simp at hG; omega)).1) (fun hG => ⟨(by simp at hG; omega), (findU_lt (by simp at hG; omega)).2⟩)) ?_
    refine wq_val (gd_gf rfl rfl rfl) rfl (val_field fo_31_3 (lkg rfl)) ?_
    refine wq_val (gd_gf rfl rfl rfl) rfl (val_load1 t1_3 (lkg rfl) (cell_old rfl fun hG => hs1.fld encU_len d0U (i := (findU own (nth d0U told k)).toNat) (f := 3) (findU_lt (by simp at hG; omega)).1 (by decide) rfl)) ?_
    refine wq_val (gd_gf rfl rfl rfl) rfl (val_move (lk rfl)) ?_
    refine wq_val (gd_gf rfl rfl rfl) rfl (val_move (lk rfl)) ?_
    refine wq_val (gd_gf rfl rfl rfl) rfl (val_index es_44 (lkg rfl) (lkg rfl) (fun hG => hs.hd encU_len (by decide) (i := k) hlt) (fun hG => hlt)) ?_
    refine wq_val (gd_gf rfl rfl rfl) rfl (val_field fo_31_3 (lkg rfl)) ?_
    refine wq_val (gd_gf rfl rfl rfl) rfl (val_load1 t1_3 (lkg rfl) (cell_old rfl fun hG => hs.fld encU_len d0U (i := k) (f := 3) (hlt) (by decide) rfl)) ?_
    refine wq_val (gd_gf rfl rfl rfl) rfl (val_lss (lkg rfl) (lkg rfl)) ?_
    refine wq_val (gd_t rfl rfl rfl) rfl (val_or (lkg rfl) (lkg rfl)) ?_
    refine wq_v rfl (val_and (lk rfl) (lkg rfl)) ?_
    refine wq_nil ?_
    refine px_then ?_
    refine wc_cond (lk rfl) (fun hc1 => ?_) (fun hc1 => ?_)
    · have hdk := dispU_len own told vis k
      have hst : dispU own told vis (k + 1) = dispU own told vis k ++ [nth d0U told k] := by rw [dispU, show dispAt own told vis k = _ from hc1]; rfl
      refine wc_region ?_
      refine wl_v rfl (val_move (lk rfl)) ?_
      refine wl_v rfl (val_move (lk rfl)) ?_
      refine wl_v rfl (val_move (lk rfl)) ?_
      refine wl_v rfl (val_index es_44 (lk rfl) (lk rfl) (fun hG => hs.hd encU_len (by decide) (i := k) hlt) (fun hG => hlt)) ?_
      refine wl_v rfl (val_loadN ag_31 (lk rfl) rfl (hs.rec_ rfl encU_len d0U (fun _ => hlt))) ?_
      refine wl_bslice (partsC (lk rfl) parts0) (bsl_44_1_0 _ _ _ _) rfl fun b2 => ?_
      refine wl_appendR encU_len (by decide) (dispU own told vis k) [nth d0U told k] 1 es_44 zc_31 rfl eb_31 (lk rfl) rfl hgl hgc (lk rfl) (fun _ hw => Sl.own' (vs := flat encU [nth d0U told k]) hw (.head _)) (by first | omega | (simp only [List.length_nil]; omega) | (simp only [List.length_cons, List.length_nil]; omega)) (by first | omega | (simp only [List.length_nil]; omega) | (simp only [List.length_cons, List.length_nil]; omega)) rfl fun a63 ac63 as63 hal63 ham63 => ?_
      refine wl_v rfl (val_assign (lk rfl)) ?_
      refine wl_nil ?_
      refine px_block ?_
      refine px_then ?_
      refine wc_region ?_
      refine wl_v rfl (val_move (lk rfl)) ?_
      refine wl_v rfl (val_inc (lk rfl) (by omega)) ?_
      refine wl_v rfl (val_assign (lk rfl)) ?_
      refine wl_nil ?_
      refine px_round ((k + 1, a63, ac63, as63)) (⟨by show k + 1 ≤ _; omega, by show (flat encU (dispU own told vis (k + 1)) ++ _).length = _; rw [hst]; exact hal63, ham63⟩) (by show told.length - (k + 1) < told.length - k; omega) (⟨slotS (congrArg List.length hst.symm), rfl, rfl, rfl, rfl, rfl, slotS (congrArg List.length hst.symm), rfl, trivial⟩) (fun w1 h => by
        have h2 := h.mask [true, false] rfl
        show HP w [⟨_, true, 31, flat encU (dispU own told vis (k + 1)) ++ _⟩] w1
        rw [hst]
        exact h2)
    have hst : dispU own told vis (k + 1) = dispU own told vis k := by rw [dispU, show dispAt own told vis k = _ from hc1]; rfl
    refine wc_skip ?_
    refine px_block ?_
    refine px_then ?_
    refine wc_region ?_
    refine wl_v rfl (val_move (lk rfl)) ?_
    refine wl_v rfl (val_inc (lk rfl) (by omega)) ?_
    refine wl_v rfl (val_assign (lk rfl)) ?_
    refine wl_nil ?_
    refine px_round ((k + 1, gb, gc, gs)) (⟨by show k + 1 ≤ _; omega, by show (flat encU (dispU own told vis (k + 1)) ++ _).length = _; rw [hst]; exact hgl, hgc⟩) (by show told.length - (k + 1) < told.length - k; omega) (⟨slotS (congrArg List.length hst.symm), rfl, rfl, rfl, rfl, rfl, slotS (congrArg List.length hst.symm), rfl, trivial⟩) (fun w1 h => by
      have h2 := h.mask [true] rfl
      show HP w [⟨_, true, 31, flat encU (dispU own told vis (k + 1)) ++ _⟩] w1
      rw [hst]
      exact h2)
  have hge : k = told.length := by have := of_decide_eq_false hc0; omega
  subst hge
  refine wc_exit ?_
  refine px_then_exit ?_
  refine px_then_exit ?_
  refine px_block_exit ?_
  refine px_then ?_
  refine wc_seq ?_
  refine wc_region ?_
  refine wl_v rfl (val_move (lk rfl)) ?_
  refine wl_v rfl (val_assign (lk rfl)) ?_
  refine wl_nil ?_
  refine px_then ?_
  refine wc_ret ?_
  refine fin1 rfl (res_tmp rfl) (fun w1 hw => ?_)
  exact ⟨(gb, gc, gs), ⟨hgl, hgc⟩, rfl, hw.mask [true] rfl⟩

theorem Disp_c (own told : List Rec) (A A2 : Option Addr) (b o c b2 o2 c2 : Nat) (vis : Int) (w : World) (hs1 : Sl w A b o (flat encU own)) (hs : Sl w A2 b2 o2 (flat encU told)) (hl1 : own.length ≤ 1048576) (hl : told.length ≤ 1048576) :
    Calls Try.prog 38 #[.slice A own.length c, .slice A2 told.length c2, .int .i64 vis] w fun e w' => ∃ x : Nat × Nat × List Value, ((flat encU (dispU own told vis told.length) ++ x.2.2).length = x.2.1 * 4 ∧ x.2.1 ≤ 9223372036854775807) ∧ e = .returned (.slice (some ⟨x.1, 0, none⟩) (dispU own told vis told.length).length x.2.1) ∧ HP w [⟨x.1, true, 31, flat encU (dispU own told vis told.length) ++ x.2.2⟩] w' := by
  refine calls_entry [] _ Try.func38 rfl Try.ntmps38 (HP.refl w) (env3 rfl) ?_
  refine wc_seq ?_
  refine wc_region ?_
  refine wl_v rfl (val_assign lkc) ?_
  refine wl_nil ?_
  refine px_then ?_
  refine wc_seq ?_
  refine wc_region ?_
  refine wl_bslice parts0 bsl_44_0_ rfl fun b1 => ?_
  refine wl_v rfl (val_assign (lk rfl)) ?_
  refine wl_nil ?_
  refine px_then ?_
  refine wc_seq ?_
  refine wc_seq ?_
  refine wc_region ?_
  refine wl_v rfl (val_move (lk rfl)) ?_
  refine wl_v rfl (val_len es_44 (lk rfl)) ?_
  refine wl_v rfl (val_move lkc) ?_
  refine wl_nil ?_
  refine px_then ?_
  refine wc_block ?_
  refine wc_trim (l' := [(0, _), (1, _), (2, _), (6, _), (7, _), (12, _), (13, _), (14, _)]) ⟨rfl, rfl, rfl, rfl, rfl, rfl, rfl, rfl, trivial⟩ ?_
  refine wc_loopl (X := Nat × Nat × Nat × List Value) (fun x => x.1 ≤ told.length ∧ (flat encU (dispU own told vis x.1) ++ x.2.2.2).length = x.2.2.1 * 4 ∧ x.2.2.1 ≤ 9223372036854775807) (fun x => [(7, (true, .slice (some ⟨x.2.1, 0, none⟩) (dispU own told vis x.1).length x.2.2.1)), (14, (true, .int .i64 (x.1 : Nat)))]) (fun x => [⟨x.2.1, true, 31, flat encU (dispU own told vis x.1) ++ x.2.2.2⟩]) (fun x => told.length - x.1) (0, b1, 0, []) (⟨Nat.zero_le _, rfl, Nat.zero_le _⟩) ⟨rfl, rfl, rfl, rfl, rfl, rfl, rfl, rfl, rfl, rfl, trivial⟩ (fun _ h => h) ?_
  rintro ⟨k, gb, gc, gs⟩ ⟨hk, hgl, hgc⟩
  refine wc_seq ?_
  refine wc_region ?_
  refine wl_v rfl (val_lss (lk rfl) (lk rfl)) ?_
  refine wl_nil ?_
  refine px_then ?_
  refine wc_seq ?_
  refine wc_cond (lk rfl) (fun hc0 => ?_) (fun hc0 => ?_)
  · have hlt : k < told.length := by have := of_decide_eq_true hc0; omega
    refine wc_skip ?_
    refine px_then ?_
    refine wc_seq ?_
    refine wc_block ?_
    refine wc_seq ?_
    refine wc_region ?_
    refine wl_v rfl (val_move (lk rfl)) ?_
    refine wl_v rfl (val_index es_44 (lk rfl) (lk rfl) (fun hG => hs.hd encU_len (by decide) (i := k) hlt) (fun hG => hlt)) ?_
    refine wl_v rfl (val_loadN ag_31 (lk rfl) rfl (hs.rec_ rfl encU_len d0U (fun _ => hlt))) ?_
    refine wl_alloc zc_31 rfl fun b2 => ?_
    refine wl_v rfl (val_assign (lk rfl)) ?_
    refine wl_storeB 0 rfl (lk rfl) (lk rfl) ag_31 rfl rfl ?_
    refine wl_nil ?_
    refine px_then ?_
    refine wc_seq ?_
    refine wc_seq ?_
    refine wc_region ?_
    refine wl_v rfl (val_field fo_31_0 (lk rfl)) ?_
    refine wl_v rfl (val_load1 t1_3 (lk rfl) (cell_own (.head _) fun _ => rfl)) ?_
    refine wl_v rfl (val_move (lk rfl)) ?_
    refine wl_v rfl (val_neq (lk rfl) (lk rfl)) ?_
    refine wl_nil ?_
    refine px_then ?_
    refine wc_cond (lk rfl) (fun hc1 => ?_) (fun hc1 => ?_)
    · have hst : dispU own told vis (k + 1) = dispU own told vis k := by rw [dispU, disp_no hc1]; rfl
      refine wc_exit ?_
      refine px_then_exit ?_
      refine px_block_exit ?_
      refine px_then ?_
      refine wc_region ?_
      refine wl_v rfl (val_inc (lk rfl) (by omega)) ?_
      refine wl_v rfl (val_move (lk rfl)) ?_
      refine wl_nil ?_
      refine px_round ((k + 1, gb, gc, gs)) (⟨by show k + 1 ≤ _; omega, by show (flat encU (dispU own told vis (k + 1)) ++ _).length = _; rw [hst]; exact hgl, hgc⟩) (by show told.length - (k + 1) < told.length - k; omega) (⟨slotS (congrArg List.length hst.symm), rfl, rfl, rfl, rfl, rfl, slotS (congrArg List.length hst.symm), rfl, rfl, rfl, trivial⟩) (fun w1 h => by
        have h2 := h.mask [false, true] rfl
        show HP w [⟨_, true, 31, flat encU (dispU own told vis (k + 1)) ++ _⟩] w1
        rw [hst]
        exact h2)
    refine wc_skip ?_
    refine px_then ?_
    refine wc_seq ?_
    refine wc_region ?_
    refine wl_v rfl (val_move (lk rfl)) ?_
    refine wl_v rfl (val_loadB (.head _) (lk rfl) ag_31) ?_
    refine wl_call gd_none rfl ci_32 (args2 (lk rfl) (lk rfl)) (fun hG w1 hw => FindU_c own _ _ _ _ (nth d0U told k) w1 (hs1.hp hw rfl) (by omega)) ?_
    refine wl_v rfl (val_assign (lk rfl)) ?_
    refine wl_nil ?_
    refine px_then ?_
    refine wc_seq ?_
    refine wc_region_q mo_ (by kernel_rfl) ?_
    refine wq_v rfl (val_move (lk rfl)) ?_
    refine wq_v rfl (val_loadB (.head _) (lk rfl) ag_31) ?_
    refine wq_call gd_none rfl ci_32 (args2 (lk rfl) (lk rfl)) (fun hG w1 hw => FindU_c told _ _ _ _ (nth d0U told k) w1 (hs.hp hw rfl) (by omega)) ?_
    refine wq_v rfl (val_move (lk rfl)) ?_
    refine wq_v rfl (val_neq (lk rfl) (lk rfl)) ?_
    refine wq_v rfl (val_move (lk rfl)) ?_
    refine wq_val (gd_f rfl rfl rfl) rfl (val_move (lk rfl)) ?_
    refine wq_val (gd_f rfl rfl rfl) rfl (val_lss (lkg rfl) lkc) ?_
    refine wq_v rfl (val_or (lk rfl) (lkg rfl)) ?_
    refine wq_v rfl (val_move (lk rfl)) ?_
    refine wq_val (gd_f rfl rfl rfl) rfl (val_move (lk rfl)) ?_
    refine wq_val (gd_f rfl rfl rfl) rfl (val_move (lk rfl)) ?_
    refine wq_val (gd_f rfl rfl rfl) rfl (val_indexI es_44 (lkg rfl) (lkg rfl) (fun hG => hs1.hd encU_len (by decide) (i := (findU own (nth d0U told k)).toNat) (findU_lt (by simp at hG; omega)).1) (fun hG => ⟨(by simp at hG; omega), (findU_lt (by simp at hG; omega)).2⟩)) ?_
    refine wq_val (gd_f rfl rfl rfl) rfl (val_field fo_31_3 (lkg rfl)) ?_
    refine wq_val (gd_f rfl rfl rfl) rfl (val_load1 t1_3 (lkg rfl) (cell_old rfl fun hG => hs1.fld encU_len d0U (i := (findU own (nth d0U told k)).toNat) (f := 3) (findU_lt (by simp at hG; omega)).1 (by decide) rfl)) ?_
    refine wq_val (gd_f rfl rfl rfl) rfl (val_field fo_31_3 (lk rfl)) ?_
    refine wq_val (gd_f rfl rfl rfl) rfl (val_load1 t1_3 (lkg rfl) (cell_own (.head _) fun _ => rfl)) ?_
    refine wq_val (gd_f rfl rfl rfl) rfl (val_lss (lkg rfl) (lkg rfl)) ?_
    refine wq_v rfl (val_or (lk rfl) (lkg rfl)) ?_
    refine wq_nil ?_
    refine px_then ?_
    refine wc_cond (lk rfl) (fun hc2 => ?_) (fun hc2 => ?_)
    · have hdk := dispU_len own told vis k
      have hst : dispU own told vis (k + 1) = dispU own told vis k ++ [nth d0U told k] := by rw [dispU, disp_eq hc1, hc2]; rfl
      refine wc_region ?_
      refine wl_v rfl (val_move (lk rfl)) ?_
      refine wl_v rfl (val_loadB (.head _) (lk rfl) ag_31) ?_
      refine wl_bslice (partsC (lk rfl) parts0) (bsl_44_1_0 _ _ _ _) rfl fun b3 => ?_
      refine wl_appendR encU_len (by decide) (dispU own told vis k) [nth d0U told k] 2 es_44 zc_31 rfl eb_31 (lk rfl) rfl hgl hgc (lk rfl) (fun _ hw => Sl.own' (vs := flat encU [nth d0U told k]) hw (.head _)) (by first | omega | (simp only [List.length_nil]; omega) | (simp only [List.length_cons, List.length_nil]; omega)) (by first | omega | (simp only [List.length_nil]; omega) | (simp only [List.length_cons, List.length_nil]; omega)) rfl fun a48 ac48 as48 hal48 ham48 => ?_
      refine wl_v rfl (val_assign (lk rfl)) ?_
      refine wl_nil ?_
      refine px_block ?_
      refine px_then ?_
      refine wc_region ?_
      refine wl_v rfl (val_inc (lk rfl) (by omega)) ?_
      refine wl_v rfl (val_move (lk rfl)) ?_
      refine wl_nil ?_
      refine px_round ((k + 1, a48, ac48, as48)) (⟨by show k + 1 ≤ _; omega, by show (flat encU (dispU own told vis (k + 1)) ++ _).length = _; rw [hst]; exact hal48, ham48⟩) (by show told.length - (k + 1) < told.length - k; omega) (⟨slotS (congrArg List.length hst.symm), rfl, rfl, rfl, rfl, rfl, slotS (congrArg List.length hst.symm), rfl, rfl, rfl, trivial⟩) (fun w1 h => by
        have h2 := h.mask [true, false, false] rfl
        show HP w [⟨_, true, 31, flat encU (dispU own told vis (k + 1)) ++ _⟩] w1
        rw [hst]
        exact h2)
    have hst : dispU own told vis (k + 1) = dispU own told vis k := by rw [dispU, disp_eq hc1, hc2]; rfl
    refine wc_skip ?_
    refine px_block ?_
    refine px_then ?_
    refine wc_region ?_
    refine wl_v rfl (val_inc (lk rfl) (by omega)) ?_
    refine wl_v rfl (val_move (lk rfl)) ?_
    refine wl_nil ?_
    refine px_round ((k + 1, gb, gc, gs)) (⟨by show k + 1 ≤ _; omega, by show (flat encU (dispU own told vis (k + 1)) ++ _).length = _; rw [hst]; exact hgl, hgc⟩) (by show told.length - (k + 1) < told.length - k; omega) (⟨slotS (congrArg List.length hst.symm), rfl, rfl, rfl, rfl, rfl, slotS (congrArg List.length hst.symm), rfl, rfl, rfl, trivial⟩) (fun w1 h => by
      have h2 := h.mask [false, true] rfl
      show HP w [⟨_, true, 31, flat encU (dispU own told vis (k + 1)) ++ _⟩] w1
      rw [hst]
      exact h2)
  have hge : k = told.length := by have := of_decide_eq_false hc0; omega
  subst hge
  refine wc_exit ?_
  refine px_then_exit ?_
  refine px_then_exit ?_
  refine px_block_exit ?_
  refine px_then ?_
  refine wc_seq ?_
  refine wc_region ?_
  refine wl_v rfl (val_move (lk rfl)) ?_
  refine wl_v rfl (val_assign (lk rfl)) ?_
  refine wl_nil ?_
  refine px_then ?_
  refine wc_ret ?_
  refine fin1 rfl (res_tmp rfl) (fun w1 hw => ?_)
  exact ⟨(gb, gc, gs), ⟨hgl, hgc⟩, rfl, hw.mask [true] rfl⟩

theorem sMerge_c (own told : List Rec) (A A2 : Option Addr) (b o c b2 o2 c2 : Nat) (w : World) (hs1 : Sl w A b o (flat encU own)) (hs : Sl w A2 b2 o2 (flat encU told)) (hl1 : own.length ≤ 1048576) (hl : told.length ≤ 1048576) :
    Calls Try.prog 47 #[.slice A own.length c, .slice A2 told.length c2] w fun e w' => ∃ x : Nat × Nat × List Value, ((flat encU (mergeU own told told.length) ++ x.2.2).length = x.2.1 * 4 ∧ x.2.1 ≤ 9223372036854775807) ∧ e = .returned (.slice (some ⟨x.1, 0, none⟩) (mergeU own told told.length).length x.2.1) ∧ HP w [⟨x.1, true, 31, flat encU (mergeU own told told.length) ++ x.2.2⟩] w' := by
  refine calls_entry [] _ Try.func47 rfl Try.ntmps47 (HP.refl w) (env2 rfl) ?_
  refine wc_seq ?_
  refine wc_region ?_
  refine wl_v rfl (val_assign lkc) ?_
  refine wl_nil ?_
  refine px_then ?_
  refine wc_seq ?_
  refine wc_region ?_
  refine wl_v rfl (val_move (lk rfl)) ?_
  refine wl_callx rfl ci_56 (args1 (lk rfl)) (fun w1 hw => sCopyU_c own _ _ _ _ w1 (hs1.hp hw rfl) hl1) (fun _ => rfl) ?_
  rintro ⟨gb10, gc10, gs10⟩ ⟨hgl10, hgc10⟩
  refine wl_v rfl (val_assign (lk rfl)) ?_
  refine wl_nil ?_
  refine px_then ?_
  refine wc_seq ?_
  refine wc_seq ?_
  refine wc_region ?_
  refine wl_v rfl (val_assign lkc) ?_
  refine wl_nil ?_
  refine px_then ?_
  refine wc_block ?_
  refine wc_trim (l' := [(1, _), (4, _), (5, _), (6, _)]) ⟨rfl, rfl, rfl, rfl, trivial⟩ ?_
  refine wc_loopl (X := Nat × Nat × Nat × List Value) (fun x => x.1 ≤ told.length ∧ (flat encU (mergeU own told x.1) ++ x.2.2.2).length = x.2.2.1 * 4 ∧ x.2.2.1 ≤ 9223372036854775807) (fun x => [(5, (true, .slice (some ⟨x.2.1, 0, none⟩) (mergeU own told x.1).length x.2.2.1)), (6, (true, .int .i64 (x.1 : Nat)))]) (fun x => [⟨x.2.1, true, 31, flat encU (mergeU own told x.1) ++ x.2.2.2⟩]) (fun x => told.length - x.1) (0, gb10, gc10, gs10) (⟨Nat.zero_le _, hgl10, hgc10⟩) ⟨rfl, rfl, rfl, rfl, rfl, rfl, trivial⟩ (fun _ h => h) ?_
  rintro ⟨k, gb, gc, gs⟩ ⟨hk, hgl, hgc⟩
  refine wc_seq ?_
  refine wc_seq ?_
  refine wc_region ?_
  refine wl_v rfl (val_move (lk rfl)) ?_
  refine wl_v rfl (val_move (lk rfl)) ?_
  refine wl_v rfl (val_len es_44 (lk rfl)) ?_
  refine wl_v rfl (val_lss (lk rfl) (lk rfl)) ?_
  refine wl_nil ?_
  refine px_then ?_
  refine wc_cond (lk rfl) (fun hc0 => ?_) (fun hc0 => ?_)
  · have hlt : k < told.length := by have := of_decide_eq_true hc0; omega
    refine wc_skip ?_
    refine px_then ?_
    refine wc_seq ?_
    refine wc_block ?_
    refine wc_seq ?_
    refine wc_region ?_
    refine wl_v rfl (val_move (lk rfl)) ?_
    refine wl_v rfl (val_move (lk rfl)) ?_
    refine wl_v rfl (val_move (lk rfl)) ?_
    refine wl_v rfl (val_index es_44 (lk rfl) (lk rfl) (fun hG => hs.hd encU_len (by decide) (i := k) hlt) (fun hG => hlt)) ?_
    refine wl_v rfl (val_loadN ag_31 (lk rfl) rfl (hs.rec_ rfl encU_len d0U (fun _ => hlt))) ?_
    refine wl_callx rfl ci_41 (args2 (lk rfl) (lk rfl)) (fun w1 hw => sApp_c (mergeU own told k) _ _ _ _ (nth d0U told k) w1 (Sl.own hw (.head _)) (mergeU_len own told hl1 k)) (fun _ => rfl) ?_
    rintro ⟨gb23, gc23, gs23⟩ ⟨hgl23, hgc23⟩
    refine wl_v rfl (val_move (lk rfl)) ?_
    refine wl_v rfl (val_extract (lk rfl) rfl) ?_
    refine wl_v rfl (val_extract (lk rfl) rfl) ?_
    refine wl_v rfl (val_assign (lk rfl)) ?_
    refine wl_v rfl (val_assign (lk rfl)) ?_
    refine wl_nil ?_
    refine px_then ?_
    refine wc_region ?_
    refine wl_v rfl (val_move (lk rfl)) ?_
    refine wl_v rfl (val_assign (lk rfl)) ?_
    refine wl_nil ?_
    refine px_block ?_
    refine px_then ?_
    refine wc_region ?_
    refine wl_v rfl (val_move (lk rfl)) ?_
    refine wl_v rfl (val_inc (lk rfl) (by omega)) ?_
    refine wl_v rfl (val_assign (lk rfl)) ?_
    refine wl_nil ?_
    refine px_round ((k + 1, gb23, gc23, gs23)) (⟨by show k + 1 ≤ _; omega, hgl23, hgc23⟩) (by show told.length - (k + 1) < told.length - k; omega) (⟨rfl, rfl, rfl, rfl, rfl, rfl, trivial⟩) (fun _ h => h.mask [true, false] rfl)
  have hge : k = told.length := by have := of_decide_eq_false hc0; omega
  subst hge
  refine wc_exit ?_
  refine px_then_exit ?_
  refine px_then_exit ?_
  refine px_block_exit ?_
  refine px_then ?_
  refine wc_seq ?_
  refine wc_region ?_
  refine wl_v rfl (val_move (lk rfl)) ?_
  refine wl_v rfl (val_assign (lk rfl)) ?_
  refine wl_nil ?_
  refine px_then ?_
  refine wc_ret ?_
  refine fin1 rfl (res_tmp rfl) (fun w1 hw => ?_)
  exact ⟨(gb, gc, gs), ⟨hgl, hgc⟩, rfl, hw.mask [true] rfl⟩

theorem Merge_c (own told : List Rec) (A A2 : Option Addr) (b o c b2 o2 c2 : Nat) (w : World) (hs1 : Sl w A b o (flat encU own)) (hs : Sl w A2 b2 o2 (flat encU told)) (hl1 : own.length ≤ 1048576) (hl : told.length ≤ 1048576) :
    Calls Try.prog 48 #[.slice A own.length c, .slice A2 told.length c2] w fun e w' => ∃ x : Nat × Nat × List Value, ((flat encU (mergeU own told told.length) ++ x.2.2).length = x.2.1 * 4 ∧ x.2.1 ≤ 9223372036854775807) ∧ e = .returned (.slice (some ⟨x.1, 0, none⟩) (mergeU own told told.length).length x.2.1) ∧ HP w [⟨x.1, true, 31, flat encU (mergeU own told told.length) ++ x.2.2⟩] w' := by
  refine calls_entry [] _ Try.func48 rfl Try.ntmps48 (HP.refl w) (env2 rfl) ?_
  refine wc_seq ?_
  refine wc_region ?_
  refine wl_v rfl (val_assign lkc) ?_
  refine wl_nil ?_
  refine px_then ?_
  refine wc_seq ?_
  refine wc_region ?_
  refine wl_v rfl (val_move (lk rfl)) ?_
  refine wl_callx rfl ci_57 (args1 (lk rfl)) (fun w1 hw => copyUsageRecord_c own _ _ _ _ w1 (hs1.hp hw rfl) hl1) (fun _ => rfl) ?_
  rintro ⟨gb9, gc9, gs9⟩ ⟨hgl9, hgc9⟩
  refine wl_v rfl (val_assign (lk rfl)) ?_
  refine wl_nil ?_
  refine px_then ?_
  refine wc_seq ?_
  refine wc_seq ?_
  refine wc_region ?_
  refine wl_v rfl (val_move (lk rfl)) ?_
  refine wl_v rfl (val_len es_44 (lk rfl)) ?_
  refine wl_v rfl (val_move lkc) ?_
  refine wl_nil ?_
  refine px_then ?_
  refine wc_block ?_
  refine wc_trim (l' := [(4, _), (5, _), (10, _), (11, _), (12, _)]) ⟨rfl, rfl, rfl, rfl, rfl, trivial⟩ ?_
  refine wc_loopl (X := Nat × Nat × Nat × List Value) (fun x => x.1 ≤ told.length ∧ (flat encU (mergeU own told x.1) ++ x.2.2.2).length = x.2.2.1 * 4 ∧ x.2.2.1 ≤ 9223372036854775807) (fun x => [(5, (true, .slice (some ⟨x.2.1, 0, none⟩) (mergeU own told x.1).length x.2.2.1)), (12, (true, .int .i64 (x.1 : Nat)))]) (fun x => [⟨x.2.1, true, 31, flat encU (mergeU own told x.1) ++ x.2.2.2⟩]) (fun x => told.length - x.1) (0, gb9, gc9, gs9) (⟨Nat.zero_le _, hgl9, hgc9⟩) ⟨rfl, rfl, rfl, rfl, rfl, rfl, rfl, trivial⟩ (fun _ h => h) ?_
  rintro ⟨k, gb, gc, gs⟩ ⟨hk, hgl, hgc⟩
  refine wc_seq ?_
  refine wc_region ?_
  refine wl_v rfl (val_lss (lk rfl) (lk rfl)) ?_
  refine wl_nil ?_
  refine px_then ?_
  refine wc_seq ?_
  refine wc_cond (lk rfl) (fun hc0 => ?_) (fun hc0 => ?_)
  · have hlt : k < told.length := by have := of_decide_eq_true hc0; omega
    refine wc_skip ?_
    refine px_then ?_
    refine wc_seq ?_
    refine wc_block ?_
    refine wc_seq ?_
    refine wc_region ?_
    refine wl_v rfl (val_index es_44 (lk rfl) (lk rfl) (fun hG => hs.hd encU_len (by decide) (i := k) hlt) (fun hG => hlt)) ?_
    refine wl_v rfl (val_loadN ag_31 (lk rfl) rfl (hs.rec_ rfl encU_len d0U (fun _ => hlt))) ?_
    refine wl_alloc zc_31 rfl fun b1 => ?_
    refine wl_storeB 0 rfl (lk rfl) (lk rfl) ag_31 rfl rfl ?_
    refine wl_nil ?_
    refine px_then ?_
    refine wc_region ?_
    refine wl_v rfl (val_move (lk rfl)) ?_
    refine wl_v rfl (val_loadB (.head _) (lk rfl) ag_31) ?_
    refine wl_callx rfl ci_42 (args2 (lk rfl) (lk rfl)) (fun w1 hw => App_c (mergeU own told k) _ _ _ _ (nth d0U told k) w1 (Sl.own hw (.tail _ (.head _))) (mergeU_len own told hl1 k)) (fun _ => rfl) ?_
    rintro ⟨gb19, gc19, gs19⟩ ⟨hgl19, hgc19⟩
    refine wl_v rfl (val_move (lk rfl)) ?_
    refine wl_v rfl (val_extract (lk rfl) rfl) ?_
    refine wl_v rfl (val_extract (lk rfl) rfl) ?_
    refine wl_v rfl (val_assign (lk rfl)) ?_
    refine wl_nil ?_
    refine px_block ?_
    refine px_then ?_
    refine wc_region ?_
    refine wl_v rfl (val_inc (lk rfl) (by omega)) ?_
    refine wl_v rfl (val_move (lk rfl)) ?_
    refine wl_nil ?_
    refine px_round ((k + 1, gb19, gc19, gs19)) (⟨by show k + 1 ≤ _; omega, hgl19, hgc19⟩) (by show told.length - (k + 1) < told.length - k; omega) (⟨rfl, rfl, rfl, rfl, rfl, rfl, rfl, trivial⟩) (fun _ h => h.mask [true, false, false] rfl)
  have hge : k = told.length := by have := of_decide_eq_false hc0; omega
  subst hge
  refine wc_exit ?_
  refine px_then_exit ?_
  refine px_then_exit ?_
  refine px_block_exit ?_
  refine px_then ?_
  refine wc_seq ?_
  refine wc_region ?_
  refine wl_v rfl (val_move (lk rfl)) ?_
  refine wl_v rfl (val_assign (lk rfl)) ?_
  refine wl_nil ?_
  refine px_then ?_
  refine wc_ret ?_
  refine fin1 rfl (res_tmp rfl) (fun w1 hw => ?_)
  exact ⟨(gb, gc, gs), ⟨hgl, hgc⟩, rfl, hw.mask [true] rfl⟩

theorem law_FindRecord (rs : List Rec) (A : Option Addr) (b o c : Nat) (r : Rec) (w : World) (hs : Sl w A b o (flat encU rs)) (hm : rs.length ≤ 9223372036854775807) :
    Calls Try.prog 7 #[.slice A rs.length c, .agg (recV encU r).toArray] w fun e w' => e = .returned (.bool true) ∧ HP w [] w' := by
  refine calls_entry [] _ Try.func7 rfl Try.ntmps7 (HP.refl w) (env2 rfl) ?_
  refine wc_seq ?_
  refine wc_region ?_
  refine wl_box (lk rfl) rfl fun b1 => ?_
  refine wl_v rfl (val_assign lkc) ?_
  refine wl_nil ?_
  refine px_then ?_
  refine wc_seq ?_
  refine wc_region ?_
  refine wl_v rfl (val_assign lkc) ?_
  refine wl_nil ?_
  refine px_then ?_
  refine wc_seq ?_
  refine wc_region ?_
  refine wl_v rfl (val_move (lk rfl)) ?_
  refine wl_v rfl (val_move (lk rfl)) ?_
  refine wl_call gd_none rfl ci_26 (args2 (lk rfl) (lk rfl)) (fun hG w1 hw => szUsageRecordS_c _ _ _ _ w1 (by omega) hm) ?_
  refine wl_v rfl (val_assign (lk rfl)) ?_
  refine wl_nil ?_
  refine px_then ?_
  refine wc_seq ?_
  refine wc_seq ?_
  refine wc_region ?_
  refine wl_v rfl (val_move (lk rfl)) ?_
  refine wl_v rfl (val_lss (lk rfl) lkc) ?_
  refine wl_nil ?_
  refine px_then ?_
  refine wc_cond (lk rfl) (fun hc0 => ?_) (fun hc0 => ?_)
  · refine wc_seq ?_
    refine wc_region ?_
    refine wl_v rfl (val_assign lkc) ?_
    refine wl_nil ?_
    refine px_then ?_
    refine wc_ret ?_
    refine px_then_ret ?_
    refine fin1 rfl (res_tmp rfl) (fun w1 hw => ?_)
    first | exact ⟨rfl, hw.drop rfl⟩ | (exfalso; revert hc0; simp; done) | (exfalso; revert hc0; rw [eqRows_refl eqU_refl]; simp; done) | (exfalso; revert hc0; rw [eqRows_refl eqG_refl]; simp; done) | (exfalso; revert hc0; simp [eqRows_refl eqU_refl]; done) | (exfalso; revert hc0; simp [eqRows_refl eqG_refl]; done)
  have hl : rs.length ≤ 1048576 := by have h9 := of_decide_eq_false hc0; unfold szN at h9; split at h9 <;> omega
  refine wc_skip ?_
  refine px_then ?_
  refine wc_seq ?_
  refine wc_region_a0 6 mo_ rfl ?_
  refine wa_take 0 rfl (by kernel_rfl) (by kernel_rfl) (by kernel_rfl) (fun _ h => h.dropN 0 rfl) gd_none rfl (val_move (lk rfl)) ?_
  refine wa_take 2 rfl (by kernel_rfl) (by kernel_rfl) (by kernel_rfl) (fun _ h => h.dropN 0 rfl) gd_none rfl (val_loadB (.head _) (lk rfl) ag_29) ?_
  refine wa_only 1 (by kernel_rfl) rfl ?_
  refine wl_callx rfl ci_28 (args1 (lk rfl)) (fun w1 hw => toUsageRecordS_c rs _ _ _ _ w1 (hs.hp hw rfl) (by omega)) (fun _ => rfl) ?_
  rintro ⟨gb15, gc15, gs15⟩ ⟨hgl15, hgc15⟩
  refine wl_nil (px_qn (fun _ h => h.dropN 1 rfl) ?_)
  refine wa_only 3 (by kernel_rfl) rfl ?_
  refine wl_call gd_none rfl ci_19 (args1 (lk rfl)) (fun hG w1 hw => toUsageRecord_c r w1) ?_
  refine wl_nil (px_qn (fun _ h => h.dropN 1 rfl) ?_)
  refine wa_only 4 (by kernel_rfl) rfl ?_
  refine wl_call gd_none rfl ci_31 (args2 (lk rfl) (lk rfl)) (fun hG w1 hw => sFindU_c rs _ _ _ _ r w1 (Sl.own hw (.head _)) (by omega)) ?_
  refine wl_nil (px_qn (fun _ h => h.dropN 1 rfl) ?_)
  refine wa_take 5 rfl (by kernel_rfl) (by kernel_rfl) (by kernel_rfl) (fun _ h => h.dropN 1 rfl) gd_none rfl (val_assign (lk rfl)) ?_
  refine wa_done (by kernel_rfl) ?_
  refine px_then ?_
  refine wc_seq ?_
  refine wc_region ?_
  refine wl_v rfl (val_move (lk rfl)) ?_
  refine wl_callx rfl ci_28 (args1 (lk rfl)) (fun w1 hw => toUsageRecordS_c rs _ _ _ _ w1 (hs.hp hw rfl) (by omega)) (fun _ => rfl) ?_
  rintro ⟨gb20, gc20, gs20⟩ ⟨hgl20, hgc20⟩
  refine wl_v rfl (val_assign (lk rfl)) ?_
  refine wl_nil ?_
  refine px_then ?_
  refine wc_seq ?_
  refine wc_region ?_
  refine wl_v rfl (val_move (lk rfl)) ?_
  refine wl_v rfl (val_loadB (.tail _ (.tail _ (.head _))) (lk rfl) ag_29) ?_
  refine wl_call gd_none rfl ci_19 (args1 (lk rfl)) (fun hG w1 hw => toUsageRecord_c r w1) ?_
  refine wl_call gd_none rfl ci_32 (args2 (lk rfl) (lk rfl)) (fun hG w1 hw => FindU_c rs _ _ _ _ r w1 (Sl.own hw (.head _)) (by omega)) ?_
  refine wl_v rfl (val_assign (lk rfl)) ?_
  refine wl_nil ?_
  refine px_then ?_
  refine wc_seq ?_
  refine wc_seq ?_
  refine wc_region ?_
  refine wl_v rfl (val_move (lk rfl)) ?_
  refine wl_v rfl (val_move (lk rfl)) ?_
  refine wl_v rfl (val_neq (lk rfl) (lk rfl)) ?_
  refine wl_nil ?_
  refine px_then ?_
  refine wc_cond (lk rfl) (fun hc1 => ?_) (fun hc1 => ?_)
  · refine wc_seq ?_
    refine wc_region ?_
    refine wl_v rfl (val_assign lkc) ?_
    refine wl_nil ?_
    refine px_then ?_
    refine wc_ret ?_
    refine px_then_ret ?_
    refine fin1 rfl (res_tmp rfl) (fun w1 hw => ?_)
    first | exact ⟨rfl, hw.drop rfl⟩ | (exfalso; revert hc1; simp; done) | (exfalso; revert hc1; rw [eqRows_refl eqU_refl]; simp; done) | (exfalso; revert hc1; rw [eqRows_refl eqG_refl]; simp; done) | (exfalso; revert hc1; simp [eqRows_refl eqU_refl]; done) | (exfalso; revert hc1; simp [eqRows_refl eqG_refl]; done)
  refine wc_skip ?_
  refine px_then ?_
  refine wc_seq ?_
  refine wc_seq ?_
  refine wc_region ?_
  refine wl_v rfl (val_move (lk rfl)) ?_
  refine wl_v rfl (val_move (lk rfl)) ?_
  refine wl_callx rfl ci_28 (args1 (lk rfl)) (fun w1 hw => toUsageRecordS_c rs _ _ _ _ w1 (hs.hp hw rfl) (by omega)) (fun _ => rfl) ?_
  rintro ⟨gb30, gc30, gs30⟩ ⟨hgl30, hgc30⟩
  refine wl_call gd_none rfl ci_30 (args2 (lk rfl) (lk rfl)) (fun hG w1 hw => eqUsageRecordS_c rs rs _ _ _ _ _ _ _ _ w1 (Sl.own hw (.tail _ (.head _))) (Sl.own hw (.head _)) (by omega)) ?_
  refine wl_v rfl (val_not (lk rfl)) ?_
  refine wl_nil ?_
  refine px_then ?_
  refine wc_cond (lk rfl) (fun hc2 => ?_) (fun hc2 => ?_)
  · refine wc_seq ?_
    refine wc_region ?_
    refine wl_v rfl (val_assign lkc) ?_
    refine wl_nil ?_
    refine px_then ?_
    refine wc_ret ?_
    refine px_then_ret ?_
    refine fin1 rfl (res_tmp rfl) (fun w1 hw => ?_)
    first | exact ⟨rfl, hw.drop rfl⟩ | (exfalso; revert hc2; simp; done) | (exfalso; revert hc2; rw [eqRows_refl eqU_refl]; simp; done) | (exfalso; revert hc2; rw [eqRows_refl eqG_refl]; simp; done) | (exfalso; revert hc2; simp [eqRows_refl eqU_refl]; done) | (exfalso; revert hc2; simp [eqRows_refl eqG_refl]; done)
  refine wc_skip ?_
  refine px_then ?_
  refine wc_seq ?_
  refine wc_region ?_
  refine wl_v rfl (val_assign lkc) ?_
  refine wl_nil ?_
  refine px_then ?_
  refine wc_ret ?_
  refine fin1 rfl (res_tmp rfl) (fun w1 hw => ?_)
  first | exact ⟨rfl, hw.drop rfl⟩ | (exfalso; revert hc2; simp; done) | (exfalso; revert hc2; rw [eqRows_refl eqU_refl]; simp; done) | (exfalso; revert hc2; rw [eqRows_refl eqG_refl]; simp; done) | (exfalso; revert hc2; simp [eqRows_refl eqU_refl]; done) | (exfalso; revert hc2; simp [eqRows_refl eqG_refl]; done)

theorem law_NetBalance (d d2 : Agr) (own told : List Rec) (A A2 : Option Addr) (b o c b2 o2 c2 : Nat) (w : World) (hs1 : Sl w A b o (flat encU own)) (hm1 : own.length ≤ 9223372036854775807) (hs2 : Sl w A2 b2 o2 (flat encU told)) (hm2 : told.length ≤ 9223372036854775807) :
    Calls Try.prog 13 #[.agg (recV encG d).toArray, .agg (recV encG d2).toArray, .slice A own.length c, .slice A2 told.length c2] w fun e w' => e = .returned (.bool true) ∧ HP w [] w' := by
  refine calls_entry [] _ Try.func13 rfl Try.ntmps13 (HP.refl w) (env4 rfl) ?_
  refine wc_seq ?_
  refine wc_region ?_
  refine wl_box (lk rfl) rfl fun b1 => ?_
  refine wl_box (lk rfl) rfl fun b2 => ?_
  refine wl_v rfl (val_assign lkc) ?_
  refine wl_nil ?_
  refine px_then ?_
  refine wc_seq ?_
  refine wc_region ?_
  refine wl_v rfl (val_assign lkc) ?_
  refine wl_nil ?_
  refine px_then ?_
  refine wc_seq ?_
  refine wc_region ?_
  refine wl_v rfl (val_move (lk rfl)) ?_
  refine wl_v rfl (val_move (lk rfl)) ?_
  refine wl_call gd_none rfl ci_26 (args2 (lk rfl) (lk rfl)) (fun hG w1 hw => szUsageRecordS_c _ _ _ _ w1 (by omega) (by omega)) ?_
  refine wl_v rfl (val_assign (lk rfl)) ?_
  refine wl_nil ?_
  refine px_then ?_
  refine wc_seq ?_
  refine wc_seq ?_
  refine wc_region ?_
  refine wl_v rfl (val_move (lk rfl)) ?_
  refine wl_v rfl (val_lss (lk rfl) lkc) ?_
  refine wl_nil ?_
  refine px_then ?_
  refine wc_cond (lk rfl) (fun hc0 => ?_) (fun hc0 => ?_)
  · refine wc_seq ?_
    refine wc_region ?_
    refine wl_v rfl (val_assign lkc) ?_
    refine wl_nil ?_
    refine px_then ?_
    refine wc_ret ?_
    refine px_then_ret ?_
    refine fin1 rfl (res_tmp rfl) (fun w1 hw => ?_)
    first | exact ⟨rfl, hw.drop rfl⟩ | (exfalso; revert hc0; simp; done) | (exfalso; revert hc0; rw [eqRows_refl eqU_refl]; simp; done) | (exfalso; revert hc0; rw [eqRows_refl eqG_refl]; simp; done) | (exfalso; revert hc0; simp [eqRows_refl eqU_refl]; done) | (exfalso; revert hc0; simp [eqRows_refl eqG_refl]; done)
  have hl1 : own.length ≤ 1048576 := by have h9 := of_decide_eq_false hc0; unfold szN at h9; split at h9 <;> omega
  have hz : 0 ≤ szN 1048576 own.length ∧ szN 1048576 own.length ≤ 1048576 := by have h9 := of_decide_eq_false hc0; unfold szN at h9 ⊢; split at h9 <;> rename_i hq <;> simp only [hq] <;> simp <;> omega
  refine wc_skip ?_
  refine px_then ?_
  refine wc_seq ?_
  refine wc_region ?_
  refine wl_v rfl (val_move (lk rfl)) ?_
  refine wl_v rfl (val_move (lk rfl)) ?_
  refine wl_call gd_none rfl ci_26 (args2 (lk rfl) (lk rfl)) (fun hG w1 hw => szUsageRecordS_c _ _ _ _ w1 (by omega) (by omega)) ?_
  refine wl_v rfl (val_assign (lk rfl)) ?_
  refine wl_nil ?_
  refine px_then ?_
  refine wc_seq ?_
  refine wc_seq ?_
  refine wc_region ?_
  refine wl_v rfl (val_move (lk rfl)) ?_
  refine wl_v rfl (val_lss (lk rfl) lkc) ?_
  refine wl_nil ?_
  refine px_then ?_
  refine wc_cond (lk rfl) (fun hc1 => ?_) (fun hc1 => ?_)
  · refine wc_seq ?_
    refine wc_region ?_
    refine wl_v rfl (val_assign lkc) ?_
    refine wl_nil ?_
    refine px_then ?_
    refine wc_ret ?_
    refine px_then_ret ?_
    refine fin1 rfl (res_tmp rfl) (fun w1 hw => ?_)
    first | exact ⟨rfl, hw.drop rfl⟩ | (exfalso; revert hc1; simp; done) | (exfalso; revert hc1; rw [eqRows_refl eqU_refl]; simp; done) | (exfalso; revert hc1; rw [eqRows_refl eqG_refl]; simp; done) | (exfalso; revert hc1; simp [eqRows_refl eqU_refl]; done) | (exfalso; revert hc1; simp [eqRows_refl eqG_refl]; done)
  have hl2 : told.length ≤ 1048576 := by have h9 := of_decide_eq_false hc1; unfold szN at h9; split at h9 <;> omega
  refine wc_skip ?_
  refine px_then ?_
  refine wc_seq ?_
  refine wc_region_a0 10 mo_ rfl ?_
  refine wa_take 0 rfl (by kernel_rfl) (by kernel_rfl) (by kernel_rfl) (fun _ h => h.dropN 0 rfl) gd_none rfl (val_loadB (.tail _ (.head _)) (lk rfl) ag_23) ?_
  refine wa_take 2 rfl (by kernel_rfl) (by kernel_rfl) (by kernel_rfl) (fun _ h => h.dropN 0 rfl) gd_none rfl (val_loadB (.head _) (lk rfl) ag_23) ?_
  refine wa_take 4 rfl (by kernel_rfl) (by kernel_rfl) (by kernel_rfl) (fun _ h => h.dropN 0 rfl) gd_none rfl (val_move (lk rfl)) ?_
  refine wa_take 6 rfl (by kernel_rfl) (by kernel_rfl) (by kernel_rfl) (fun _ h => h.dropN 0 rfl) gd_none rfl (val_move (lk rfl)) ?_
  refine wa_only 1 (by kernel_rfl) rfl ?_
  refine wl_call gd_none rfl ci_16 (args1 (lk rfl)) (fun hG w1 hw => toRoamingAgreement_c d w1) ?_
  refine wl_nil (px_qn (fun _ h => h.dropN 0 rfl) ?_)
  refine wa_only 3 (by kernel_rfl) rfl ?_
  refine wl_call gd_none rfl ci_16 (args1 (lk rfl)) (fun hG w1 hw => toRoamingAgreement_c d2 w1) ?_
  refine wl_nil (px_qn (fun _ h => h.dropN 0 rfl) ?_)
  refine wa_only 5 (by kernel_rfl) rfl ?_
  refine wl_callx rfl ci_28 (args1 (lk rfl)) (fun w1 hw => toUsageRecordS_c own _ _ _ _ w1 (hs1.hp hw rfl) (by omega)) (fun _ => rfl) ?_
  rintro ⟨gb29, gc29, gs29⟩ ⟨hgl29, hgc29⟩
  refine wl_nil (px_qn (fun _ h => h.dropN 1 rfl) ?_)
  refine wa_only 7 (by kernel_rfl) rfl ?_
  refine wl_callx rfl ci_28 (args1 (lk rfl)) (fun w1 hw => toUsageRecordS_c told _ _ _ _ w1 (hs2.hp hw rfl) (by omega)) (fun _ => rfl) ?_
  rintro ⟨gb31, gc31, gs31⟩ ⟨hgl31, hgc31⟩
  refine wl_nil (px_qn (fun _ h => h.dropN 2 rfl) ?_)
  refine wa_only 8 (by kernel_rfl) rfl ?_
  refine wl_call gd_none rfl ci_45 (args4 (lk rfl) (lk rfl) (lk rfl) (lk rfl)) (fun hG w1 hw => sNet_c d d2 own told _ _ _ _ _ _ _ _ w1 (Sl.own hw (.tail _ (.head _))) (Sl.own hw (.head _)) (by omega) (by omega) (cap_le encU_len (by decide) hgl29) (cap_le encU_len (by decide) hgl31)) ?_
  refine wl_nil (px_qn (fun _ h => h.dropN 2 rfl) ?_)
  refine wa_take 9 rfl (by kernel_rfl) (by kernel_rfl) (by kernel_rfl) (fun _ h => h.dropN 2 rfl) gd_none rfl (val_assign (lk rfl)) ?_
  refine wa_done (by kernel_rfl) ?_
  refine px_then ?_
  refine wc_seq ?_
  refine wc_region ?_
  refine wl_v rfl (val_move (lk rfl)) ?_
  refine wl_callx rfl ci_28 (args1 (lk rfl)) (fun w1 hw => toUsageRecordS_c own _ _ _ _ w1 (hs1.hp hw rfl) (by omega)) (fun _ => rfl) ?_
  rintro ⟨gb34, gc34, gs34⟩ ⟨hgl34, hgc34⟩
  refine wl_v rfl (val_assign (lk rfl)) ?_
  refine wl_nil ?_
  refine px_then ?_
  refine wc_seq ?_
  refine wc_region ?_
  refine wl_v rfl (val_move (lk rfl)) ?_
  refine wl_callx rfl ci_28 (args1 (lk rfl)) (fun w1 hw => toUsageRecordS_c told _ _ _ _ w1 (hs2.hp hw rfl) (by omega)) (fun _ => rfl) ?_
  rintro ⟨gb36, gc36, gs36⟩ ⟨hgl36, hgc36⟩
  refine wl_v rfl (val_assign (lk rfl)) ?_
  refine wl_nil ?_
  refine px_then ?_
  refine wc_seq ?_
  refine wc_region_q mo_ (by kernel_rfl) ?_
  refine wq_v rfl (val_loadB (.tail _ (.tail _ (.tail _ (.tail _ (.tail _ (.head _)))))) (lk rfl) ag_23) ?_
  refine wq_call gd_none rfl ci_16 (args1 (lk rfl)) (fun hG w1 hw => toRoamingAgreement_c d w1) ?_
  refine wq_v rfl (val_loadB (.tail _ (.tail _ (.tail _ (.tail _ (.head _))))) (lk rfl) ag_23) ?_
  refine wq_call gd_none rfl ci_16 (args1 (lk rfl)) (fun hG w1 hw => toRoamingAgreement_c d2 w1) ?_
  refine wq_v rfl (val_move (lk rfl)) ?_
  refine wq_v rfl (val_move (lk rfl)) ?_
  refine wq_call gd_none rfl ci_46 (args4 (lk rfl) (lk rfl) (lk rfl) (lk rfl)) (fun hG w1 hw => Net_c d d2 own told _ _ _ _ _ _ _ _ w1 (Sl.own hw (.tail _ (.head _))) (Sl.own hw (.head _)) (by omega) (by omega)) ?_
  refine wq_v rfl (val_assign (lk rfl)) ?_
  refine wq_nil ?_
  refine px_then ?_
  refine wc_seq ?_
  refine wc_seq ?_
  refine wc_region ?_
  refine wl_v rfl (val_move (lk rfl)) ?_
  refine wl_v rfl (val_move (lk rfl)) ?_
  refine wl_v rfl (val_neq (lk rfl) (lk rfl)) ?_
  refine wl_nil ?_
  refine px_then ?_
  refine wc_cond (lk rfl) (fun hc2 => ?_) (fun hc2 => ?_)
  · refine wc_seq ?_
    refine wc_region ?_
    refine wl_v rfl (val_assign lkc) ?_
    refine wl_nil ?_
    refine px_then ?_
    refine wc_ret ?_
    refine px_then_ret ?_
    refine fin1 rfl (res_tmp rfl) (fun w1 hw => ?_)
    first | exact ⟨rfl, hw.drop rfl⟩ | (exfalso; revert hc2; simp; done) | (exfalso; revert hc2; rw [eqRows_refl eqU_refl]; simp; done) | (exfalso; revert hc2; rw [eqRows_refl eqG_refl]; simp; done) | (exfalso; revert hc2; simp [eqRows_refl eqU_refl]; done) | (exfalso; revert hc2; simp [eqRows_refl eqG_refl]; done)
  refine wc_skip ?_
  refine px_then ?_
  refine wc_seq ?_
  refine wc_seq ?_
  refine wc_region ?_
  refine wl_v rfl (val_move (lk rfl)) ?_
  refine wl_v rfl (val_move (lk rfl)) ?_
  refine wl_callx rfl ci_28 (args1 (lk rfl)) (fun w1 hw => toUsageRecordS_c own _ _ _ _ w1 (hs1.hp hw rfl) (by omega)) (fun _ => rfl) ?_
  rintro ⟨gb49, gc49, gs49⟩ ⟨hgl49, hgc49⟩
  refine wl_call gd_none rfl ci_30 (args2 (lk rfl) (lk rfl)) (fun hG w1 hw => eqUsageRecordS_c own own _ _ _ _ _ _ _ _ w1 (Sl.own hw (.tail _ (.tail _ (.head _)))) (Sl.own hw (.head _)) (by omega)) ?_
  refine wl_v rfl (val_not (lk rfl)) ?_
  refine wl_nil ?_
  refine px_then ?_
  refine wc_cond (lk rfl) (fun hc3 => ?_) (fun hc3 => ?_)
  · refine wc_seq ?_
    refine wc_region ?_
    refine wl_v rfl (val_assign lkc) ?_
    refine wl_nil ?_
    refine px_then ?_
    refine wc_ret ?_
    refine px_then_ret ?_
    refine fin1 rfl (res_tmp rfl) (fun w1 hw => ?_)
    first | exact ⟨rfl, hw.drop rfl⟩ | (exfalso; revert hc3; simp; done) | (exfalso; revert hc3; rw [eqRows_refl eqU_refl]; simp; done) | (exfalso; revert hc3; rw [eqRows_refl eqG_refl]; simp; done) | (exfalso; revert hc3; simp [eqRows_refl eqU_refl]; done) | (exfalso; revert hc3; simp [eqRows_refl eqG_refl]; done)
  refine wc_skip ?_
  refine px_then ?_
  refine wc_seq ?_
  refine wc_seq ?_
  refine wc_region ?_
  refine wl_v rfl (val_move (lk rfl)) ?_
  refine wl_v rfl (val_move (lk rfl)) ?_
  refine wl_callx rfl ci_28 (args1 (lk rfl)) (fun w1 hw => toUsageRecordS_c told _ _ _ _ w1 (hs2.hp hw rfl) (by omega)) (fun _ => rfl) ?_
  rintro ⟨gb54, gc54, gs54⟩ ⟨hgl54, hgc54⟩
  refine wl_call gd_none rfl ci_30 (args2 (lk rfl) (lk rfl)) (fun hG w1 hw => eqUsageRecordS_c told told _ _ _ _ _ _ _ _ w1 (Sl.own hw (.tail _ (.tail _ (.head _)))) (Sl.own hw (.head _)) (by omega)) ?_
  refine wl_v rfl (val_not (lk rfl)) ?_
  refine wl_nil ?_
  refine px_then ?_
  refine wc_cond (lk rfl) (fun hc4 => ?_) (fun hc4 => ?_)
  · refine wc_seq ?_
    refine wc_region ?_
    refine wl_v rfl (val_assign lkc) ?_
    refine wl_nil ?_
    refine px_then ?_
    refine wc_ret ?_
    refine px_then_ret ?_
    refine fin1 rfl (res_tmp rfl) (fun w1 hw => ?_)
    first | exact ⟨rfl, hw.drop rfl⟩ | (exfalso; revert hc4; simp; done) | (exfalso; revert hc4; rw [eqRows_refl eqU_refl]; simp; done) | (exfalso; revert hc4; rw [eqRows_refl eqG_refl]; simp; done) | (exfalso; revert hc4; simp [eqRows_refl eqU_refl]; done) | (exfalso; revert hc4; simp [eqRows_refl eqG_refl]; done)
  refine wc_skip ?_
  refine px_then ?_
  refine wc_seq ?_
  refine wc_region ?_
  refine wl_v rfl (val_assign lkc) ?_
  refine wl_nil ?_
  refine px_then ?_
  refine wc_ret ?_
  refine fin1 rfl (res_tmp rfl) (fun w1 hw => ?_)
  first | exact ⟨rfl, hw.drop rfl⟩ | (exfalso; revert hc4; simp; done) | (exfalso; revert hc4; rw [eqRows_refl eqU_refl]; simp; done) | (exfalso; revert hc4; rw [eqRows_refl eqG_refl]; simp; done) | (exfalso; revert hc4; simp [eqRows_refl eqU_refl]; done) | (exfalso; revert hc4; simp [eqRows_refl eqG_refl]; done)

theorem law_DisputedRecords (own told : List Rec) (A A2 : Option Addr) (b o c b2 o2 c2 : Nat) (vis : Int) (w : World) (hs1 : Sl w A b o (flat encU own)) (hm1 : own.length ≤ 9223372036854775807) (hs2 : Sl w A2 b2 o2 (flat encU told)) (hm2 : told.length ≤ 9223372036854775807) :
    Calls Try.prog 10 #[.slice A own.length c, .slice A2 told.length c2, .int .i64 vis] w fun e w' => e = .returned (.bool true) ∧ HP w [] w' := by
  refine calls_entry [] _ Try.func10 rfl Try.ntmps10 (HP.refl w) (env3 rfl) ?_
  refine wc_seq ?_
  refine wc_region ?_
  refine wl_v rfl (val_assign lkc) ?_
  refine wl_nil ?_
  refine px_then ?_
  refine wc_seq ?_
  refine wc_region ?_
  refine wl_v rfl (val_assign lkc) ?_
  refine wl_nil ?_
  refine px_then ?_
  refine wc_seq ?_
  refine wc_region ?_
  refine wl_v rfl (val_move (lk rfl)) ?_
  refine wl_v rfl (val_move (lk rfl)) ?_
  refine wl_call gd_none rfl ci_26 (args2 (lk rfl) (lk rfl)) (fun hG w1 hw => szUsageRecordS_c _ _ _ _ w1 (by omega) (by omega)) ?_
  refine wl_v rfl (val_assign (lk rfl)) ?_
  refine wl_nil ?_
  refine px_then ?_
  refine wc_seq ?_
  refine wc_seq ?_
  refine wc_region ?_
  refine wl_v rfl (val_move (lk rfl)) ?_
  refine wl_v rfl (val_lss (lk rfl) lkc) ?_
  refine wl_nil ?_
  refine px_then ?_
  refine wc_cond (lk rfl) (fun hc0 => ?_) (fun hc0 => ?_)
  · refine wc_seq ?_
    refine wc_region ?_
    refine wl_v rfl (val_assign lkc) ?_
    refine wl_nil ?_
    refine px_then ?_
    refine wc_ret ?_
    refine px_then_ret ?_
    refine fin1 rfl (res_tmp rfl) (fun w1 hw => ?_)
    first | exact ⟨rfl, hw.drop rfl⟩ | (exfalso; revert hc0; simp; done) | (exfalso; revert hc0; simp; omega) | (exfalso; revert hc0; rw [eqRows_refl eqU_refl]; simp; done) | (exfalso; revert hc0; rw [eqRows_refl eqU_refl]; simp; omega) | (exfalso; have h9 := of_decide_eq_true hc0; omega)
  have hl1 : own.length ≤ 1048576 := by have h9 := of_decide_eq_false hc0; unfold szN at h9; split at h9 <;> omega
  have hz : 0 ≤ szN 1048576 own.length ∧ szN 1048576 own.length ≤ 1048576 := by have h9 := of_decide_eq_false hc0; unfold szN at h9 ⊢; split at h9 <;> rename_i hq <;> simp only [hq] <;> simp <;> omega
  refine wc_skip ?_
  refine px_then ?_
  refine wc_seq ?_
  refine wc_region ?_
  refine wl_v rfl (val_move (lk rfl)) ?_
  refine wl_v rfl (val_move (lk rfl)) ?_
  refine wl_call gd_none rfl ci_26 (args2 (lk rfl) (lk rfl)) (fun hG w1 hw => szUsageRecordS_c _ _ _ _ w1 (by omega) (by omega)) ?_
  refine wl_v rfl (val_assign (lk rfl)) ?_
  refine wl_nil ?_
  refine px_then ?_
  refine wc_seq ?_
  refine wc_seq ?_
  refine wc_region ?_
  refine wl_v rfl (val_move (lk rfl)) ?_
  refine wl_v rfl (val_lss (lk rfl) lkc) ?_
  refine wl_nil ?_
  refine px_then ?_
  refine wc_cond (lk rfl) (fun hc1 => ?_) (fun hc1 => ?_)
  · refine wc_seq ?_
    refine wc_region ?_
    refine wl_v rfl (val_assign lkc) ?_
    refine wl_nil ?_
    refine px_then ?_
    refine wc_ret ?_
    refine px_then_ret ?_
    refine fin1 rfl (res_tmp rfl) (fun w1 hw => ?_)
    first | exact ⟨rfl, hw.drop rfl⟩ | (exfalso; revert hc1; simp; done) | (exfalso; revert hc1; simp; omega) | (exfalso; revert hc1; rw [eqRows_refl eqU_refl]; simp; done) | (exfalso; revert hc1; rw [eqRows_refl eqU_refl]; simp; omega) | (exfalso; have h9 := of_decide_eq_true hc1; omega)
  have hl2 : told.length ≤ 1048576 := by have h9 := of_decide_eq_false hc1; unfold szN at h9; split at h9 <;> omega
  have hdl : (dispU own told vis told.length).length ≤ 1048576 := Nat.le_trans (dispU_len own told vis told.length) hl2
  refine wc_skip ?_
  refine px_then ?_
  refine wc_seq ?_
  refine wc_region ?_
  refine wl_v rfl (val_move (lk rfl)) ?_
  refine wl_callx rfl ci_28 (args1 (lk rfl)) (fun w1 hw => toUsageRecordS_c own _ _ _ _ w1 (hs1.hp hw rfl) (by omega)) (fun _ => rfl) ?_
  rintro ⟨gb27, gc27, gs27⟩ ⟨hgl27, hgc27⟩
  refine wl_v rfl (val_move (lk rfl)) ?_
  refine wl_callx rfl ci_28 (args1 (lk rfl)) (fun w1 hw => toUsageRecordS_c told _ _ _ _ w1 (hs2.hp hw rfl) (by omega)) (fun _ => rfl) ?_
  rintro ⟨gb29, gc29, gs29⟩ ⟨hgl29, hgc29⟩
  refine wl_v rfl (val_move (lk rfl)) ?_
  refine wl_callx rfl ci_37 (args3 (lk rfl) (lk rfl) (lk rfl)) (fun w1 hw => sDisp_c own told _ _ _ _ _ _ _ _ vis w1 (Sl.own hw (.tail _ (.head _))) (Sl.own hw (.head _)) (by omega) (by omega)) (fun _ => rfl) ?_
  rintro ⟨gb31, gc31, gs31⟩ ⟨hgl31, hgc31⟩
  refine wl_v rfl (val_assign (lk rfl)) ?_
  refine wl_nil ?_
  refine px_then ?_
  refine wc_seq ?_
  refine wc_region ?_
  refine wl_v rfl (val_move (lk rfl)) ?_
  refine wl_callx rfl ci_28 (args1 (lk rfl)) (fun w1 hw => toUsageRecordS_c own _ _ _ _ w1 (hs1.hp hw rfl) (by omega)) (fun _ => rfl) ?_
  rintro ⟨gb33, gc33, gs33⟩ ⟨hgl33, hgc33⟩
  refine wl_v rfl (val_assign (lk rfl)) ?_
  refine wl_nil ?_
  refine px_then ?_
  refine wc_seq ?_
  refine wc_region ?_
  refine wl_v rfl (val_move (lk rfl)) ?_
  refine wl_callx rfl ci_28 (args1 (lk rfl)) (fun w1 hw => toUsageRecordS_c told _ _ _ _ w1 (hs2.hp hw rfl) (by omega)) (fun _ => rfl) ?_
  rintro ⟨gb35, gc35, gs35⟩ ⟨hgl35, hgc35⟩
  refine wl_v rfl (val_assign (lk rfl)) ?_
  refine wl_nil ?_
  refine px_then ?_
  refine wc_seq ?_
  refine wc_region ?_
  refine wl_v rfl (val_move (lk rfl)) ?_
  refine wl_v rfl (val_move (lk rfl)) ?_
  refine wl_v rfl (val_move (lk rfl)) ?_
  refine wl_callx rfl ci_38 (args3 (lk rfl) (lk rfl) (lk rfl)) (fun w1 hw => Disp_c own told _ _ _ _ _ _ _ _ vis w1 (Sl.own hw (.tail _ (.head _))) (Sl.own hw (.head _)) (by omega) (by omega)) (fun _ => rfl) ?_
  rintro ⟨gb39, gc39, gs39⟩ ⟨hgl39, hgc39⟩
  refine wl_v rfl (val_assign (lk rfl)) ?_
  refine wl_nil ?_
  refine px_then ?_
  refine wc_seq ?_
  refine wc_seq ?_
  refine wc_region ?_
  refine wl_v rfl (val_move (lk rfl)) ?_
  refine wl_v rfl (val_move (lk rfl)) ?_
  refine wl_call gd_none rfl ci_30 (args2 (lk rfl) (lk rfl)) (fun hG w1 hw => eqUsageRecordS_c (dispU own told vis told.length) (dispU own told vis told.length) _ _ _ _ _ _ _ _ w1 (Sl.own hw (.head _)) (Sl.own hw (.tail _ (.tail _ (.tail _ (.head _))))) (by omega)) ?_
  refine wl_v rfl (val_not (lk rfl)) ?_
  refine wl_nil ?_
  refine px_then ?_
  refine wc_cond (lk rfl) (fun hc2 => ?_) (fun hc2 => ?_)
  · refine wc_seq ?_
    refine wc_region ?_
    refine wl_v rfl (val_assign lkc) ?_
    refine wl_nil ?_
    refine px_then ?_
    refine wc_ret ?_
    refine px_then_ret ?_
    refine fin1 rfl (res_tmp rfl) (fun w1 hw => ?_)
    first | exact ⟨rfl, hw.drop rfl⟩ | (exfalso; revert hc2; simp; done) | (exfalso; revert hc2; simp; omega) | (exfalso; revert hc2; rw [eqRows_refl eqU_refl]; simp; done) | (exfalso; revert hc2; rw [eqRows_refl eqU_refl]; simp; omega) | (exfalso; have h9 := of_decide_eq_true hc2; omega)
  refine wc_skip ?_
  refine px_then ?_
  refine wc_seq ?_
  refine wc_seq ?_
  refine wc_region ?_
  refine wl_v rfl (val_move (lk rfl)) ?_
  refine wl_v rfl (val_move (lk rfl)) ?_
  refine wl_callx rfl ci_28 (args1 (lk rfl)) (fun w1 hw => toUsageRecordS_c own _ _ _ _ w1 (hs1.hp hw rfl) (by omega)) (fun _ => rfl) ?_
  rintro ⟨gb46, gc46, gs46⟩ ⟨hgl46, hgc46⟩
  refine wl_call gd_none rfl ci_30 (args2 (lk rfl) (lk rfl)) (fun hG w1 hw => eqUsageRecordS_c (own) (own) _ _ _ _ _ _ _ _ w1 (Sl.own hw (.tail _ (.tail _ (.tail _ (.head _))))) (Sl.own hw (.head _)) (by omega)) ?_
  refine wl_v rfl (val_not (lk rfl)) ?_
  refine wl_nil ?_
  refine px_then ?_
  refine wc_cond (lk rfl) (fun hc3 => ?_) (fun hc3 => ?_)
  · refine wc_seq ?_
    refine wc_region ?_
    refine wl_v rfl (val_assign lkc) ?_
    refine wl_nil ?_
    refine px_then ?_
    refine wc_ret ?_
    refine px_then_ret ?_
    refine fin1 rfl (res_tmp rfl) (fun w1 hw => ?_)
    first | exact ⟨rfl, hw.drop rfl⟩ | (exfalso; revert hc3; simp; done) | (exfalso; revert hc3; simp; omega) | (exfalso; revert hc3; rw [eqRows_refl eqU_refl]; simp; done) | (exfalso; revert hc3; rw [eqRows_refl eqU_refl]; simp; omega) | (exfalso; have h9 := of_decide_eq_true hc3; omega)
  refine wc_skip ?_
  refine px_then ?_
  refine wc_seq ?_
  refine wc_seq ?_
  refine wc_region ?_
  refine wl_v rfl (val_move (lk rfl)) ?_
  refine wl_v rfl (val_move (lk rfl)) ?_
  refine wl_callx rfl ci_28 (args1 (lk rfl)) (fun w1 hw => toUsageRecordS_c told _ _ _ _ w1 (hs2.hp hw rfl) (by omega)) (fun _ => rfl) ?_
  rintro ⟨gb51, gc51, gs51⟩ ⟨hgl51, hgc51⟩
  refine wl_call gd_none rfl ci_30 (args2 (lk rfl) (lk rfl)) (fun hG w1 hw => eqUsageRecordS_c (told) (told) _ _ _ _ _ _ _ _ w1 (Sl.own hw (.tail _ (.tail _ (.tail _ (.head _))))) (Sl.own hw (.head _)) (by omega)) ?_
  refine wl_v rfl (val_not (lk rfl)) ?_
  refine wl_nil ?_
  refine px_then ?_
  refine wc_cond (lk rfl) (fun hc4 => ?_) (fun hc4 => ?_)
  · refine wc_seq ?_
    refine wc_region ?_
    refine wl_v rfl (val_assign lkc) ?_
    refine wl_nil ?_
    refine px_then ?_
    refine wc_ret ?_
    refine px_then_ret ?_
    refine fin1 rfl (res_tmp rfl) (fun w1 hw => ?_)
    first | exact ⟨rfl, hw.drop rfl⟩ | (exfalso; revert hc4; simp; done) | (exfalso; revert hc4; simp; omega) | (exfalso; revert hc4; rw [eqRows_refl eqU_refl]; simp; done) | (exfalso; revert hc4; rw [eqRows_refl eqU_refl]; simp; omega) | (exfalso; have h9 := of_decide_eq_true hc4; omega)
  refine wc_skip ?_
  refine px_then ?_
  refine wc_seq ?_
  refine wc_region ?_
  refine wl_v rfl (val_assign lkc) ?_
  refine wl_nil ?_
  refine px_then ?_
  refine wc_seq ?_
  refine wc_region ?_
  refine wl_v rfl (val_move (lk rfl)) ?_
  refine wl_v rfl (val_move (lk rfl)) ?_
  refine wl_callw 4 rfl ci_39 (args2 (lk rfl) (lk rfl)) rfl (fun w1 hw => markUsageRecordS_c _ _ _ _ (1) _ w1 (fun _ => rfl) (hw.own _ (.tail _ (.tail _ (.tail _ (.tail _ (.head _)))))) (by omega) (by omega) (by rw [List.length_append, flat_len encU_len]; omega)) (fun _ => rfl) ?_
  rintro ⟨⟩ -
  refine wl_v rfl (val_assign (lk rfl)) ?_
  refine wl_nil ?_
  refine px_then ?_
  refine wc_seq ?_
  refine wc_region ?_
  refine wl_v rfl (val_move (lk rfl)) ?_
  refine wl_v rfl (val_move (lk rfl)) ?_
  refine wl_callw 3 rfl ci_39 (args2 (lk rfl) (lk rfl)) rfl (fun w1 hw => markUsageRecordS_c _ _ _ _ (1 + own.length * 4) _ w1 (fun _ => rfl) (hw.own _ (.tail _ (.tail _ (.tail _ (.head _))))) (by omega) (by omega) (by rw [List.length_append, flat_len encU_len]; omega)) (fun _ => rfl) ?_
  rintro ⟨⟩ -
  refine wl_v rfl (val_assign (lk rfl)) ?_
  refine wl_nil ?_
  refine px_then ?_
  refine wc_seq ?_
  refine wc_seq ?_
  refine wc_region ?_
  refine wl_v rfl (val_move (lk rfl)) ?_
  refine wl_v rfl (val_lss (lk rfl) lkc) ?_
  refine wl_v rfl (val_move (lk rfl)) ?_
  refine wl_val (gd_f rfl rfl rfl) rfl (val_move (lk rfl)) ?_
  refine wl_val (gd_f rfl rfl rfl) rfl (val_move (lk rfl)) ?_
  refine wl_call (gd_f rfl rfl rfl) rfl ci_30 (args2 (lkg rfl) (lkg rfl)) (fun hG w1 hw => eqUsageRecordS_c (dispU own told vis told.length) (dispU own told vis told.length) _ _ _ _ _ _ _ _ w1 (Sl.own hw (.tail _ (.tail _ (.head _)))) (Sl.own hw (.tail _ (.tail _ (.tail _ (.tail _ (.tail _ (.head _))))))) (by omega)) ?_
  refine wl_val (gd_f rfl rfl rfl) rfl (val_not (lkg rfl)) ?_
  refine wl_v rfl (val_or (lk rfl) (lkg rfl)) ?_
  refine wl_nil ?_
  refine px_then ?_
  refine wc_cond (lk rfl) (fun hc5 => ?_) (fun hc5 => ?_)
  · refine wc_seq ?_
    refine wc_region ?_
    refine wl_v rfl (val_assign lkc) ?_
    refine wl_nil ?_
    refine px_then ?_
    refine wc_ret ?_
    refine px_then_ret ?_
    refine fin1 rfl (res_tmp rfl) (fun w1 hw => ?_)
    first | exact ⟨rfl, hw.drop rfl⟩ | (exfalso; revert hc5; simp; done) | (exfalso; revert hc5; simp; omega) | (exfalso; revert hc5; rw [eqRows_refl eqU_refl]; simp; done) | (exfalso; revert hc5; rw [eqRows_refl eqU_refl]; simp; omega) | (exfalso; have h9 := of_decide_eq_true hc5; omega)
  refine wc_skip ?_
  refine px_then ?_
  refine wc_seq ?_
  refine wc_region ?_
  refine wl_v rfl (val_assign lkc) ?_
  refine wl_nil ?_
  refine px_then ?_
  refine wc_seq ?_
  refine wc_region ?_
  refine wl_v rfl (val_move (lk rfl)) ?_
  refine wl_v rfl (val_move (lk rfl)) ?_
  refine wl_callw 2 rfl ci_39 (args2 (lk rfl) (lk rfl)) rfl (fun w1 hw => markUsageRecordS_c _ _ _ _ (1) _ w1 (fun _ => rfl) (hw.own _ (.tail _ (.tail _ (.head _)))) (by omega) (by omega) (by rw [List.length_append, flat_len encU_len]; omega)) (fun _ => rfl) ?_
  rintro ⟨⟩ -
  refine wl_v rfl (val_assign (lk rfl)) ?_
  refine wl_nil ?_
  refine px_then ?_
  refine wc_seq ?_
  refine wc_region ?_
  refine wl_v rfl (val_assign lkc) ?_
  refine wl_nil ?_
  refine px_then ?_
  refine wc_seq ?_
  refine wc_region ?_
  refine wl_v rfl (val_move (lk rfl)) ?_
  refine wl_v rfl (val_move (lk rfl)) ?_
  refine wl_call gd_none rfl ci_40 (args2 (lk rfl) (lk rfl)) (fun hG w1 hw => heldUsageRecordS_c _ _ 0 _ _ 1 w1 (Sl.own hw (.tail _ (.tail _ (.head _)))) (by omega) (by decide)) ?_
  refine wl_v rfl (val_assign (lk rfl)) ?_
  refine wl_nil ?_
  refine px_then ?_
  refine wc_seq ?_
  refine wc_seq ?_
  refine wc_region ?_
  refine wl_v rfl (val_move (lk rfl)) ?_
  refine wl_v rfl (val_lss (lk rfl) lkc) ?_
  refine wl_nil ?_
  refine px_then ?_
  refine wc_cond (lk rfl) (fun hc6 => ?_) (fun hc6 => ?_)
  · refine wc_seq ?_
    refine wc_region ?_
    refine wl_v rfl (val_assign lkc) ?_
    refine wl_nil ?_
    refine px_then ?_
    refine wc_ret ?_
    refine px_then_ret ?_
    refine fin1 rfl (res_tmp rfl) (fun w1 hw => ?_)
    first | exact ⟨rfl, hw.drop rfl⟩ | (exfalso; revert hc6; simp; done) | (exfalso; revert hc6; simp; omega) | (exfalso; revert hc6; rw [eqRows_refl eqU_refl]; simp; done) | (exfalso; revert hc6; rw [eqRows_refl eqU_refl]; simp; omega) | (exfalso; have h9 := of_decide_eq_true hc6; omega)
  refine wc_skip ?_
  refine px_then ?_
  refine wc_seq ?_
  refine wc_seq ?_
  refine wc_region ?_
  refine wl_v rfl (val_move (lk rfl)) ?_
  refine wl_v rfl (val_move (lk rfl)) ?_
  refine wl_v rfl (val_neq (lk rfl) (lk rfl)) ?_
  refine wl_nil ?_
  refine px_then ?_
  refine wc_cond (lk rfl) (fun hc7 => ?_) (fun hc7 => ?_)
  · refine wc_seq ?_
    refine wc_region ?_
    refine wl_v rfl (val_assign lkc) ?_
    refine wl_nil ?_
    refine px_then ?_
    refine wc_ret ?_
    refine px_then_ret ?_
    refine fin1 rfl (res_tmp rfl) (fun w1 hw => ?_)
    first | exact ⟨rfl, hw.drop rfl⟩ | (exfalso; revert hc7; simp; done) | (exfalso; revert hc7; simp; omega) | (exfalso; revert hc7; rw [eqRows_refl eqU_refl]; simp; done) | (exfalso; revert hc7; rw [eqRows_refl eqU_refl]; simp; omega) | (exfalso; have h9 := of_decide_eq_true hc7; omega)
  refine wc_skip ?_
  refine px_then ?_
  refine wc_seq ?_
  refine wc_region ?_
  refine wl_v rfl (val_move (lk rfl)) ?_
  refine wl_callx rfl ci_28 (args1 (lk rfl)) (fun w1 hw => toUsageRecordS_c own _ _ _ _ w1 (hs1.hp hw rfl) (by omega)) (fun _ => rfl) ?_
  rintro ⟨gb80, gc80, gs80⟩ ⟨hgl80, hgc80⟩
  refine wl_v rfl (val_move (lk rfl)) ?_
  refine wl_callx rfl ci_28 (args1 (lk rfl)) (fun w1 hw => toUsageRecordS_c told _ _ _ _ w1 (hs2.hp hw rfl) (by omega)) (fun _ => rfl) ?_
  rintro ⟨gb82, gc82, gs82⟩ ⟨hgl82, hgc82⟩
  refine wl_v rfl (val_move (lk rfl)) ?_
  refine wl_callx rfl ci_38 (args3 (lk rfl) (lk rfl) (lk rfl)) (fun w1 hw => Disp_c own told _ _ _ _ _ _ _ _ vis w1 (Sl.own hw (.tail _ (.head _))) (Sl.own hw (.head _)) (by omega) (by omega)) (fun _ => rfl) ?_
  rintro ⟨gb84, gc84, gs84⟩ ⟨hgl84, hgc84⟩
  refine wl_v rfl (val_assign (lk rfl)) ?_
  refine wl_nil ?_
  refine px_then ?_
  refine wc_seq ?_
  refine wc_seq ?_
  refine wc_region ?_
  refine wl_v rfl (val_move (lk rfl)) ?_
  refine wl_v rfl (val_move (lk rfl)) ?_
  refine wl_call gd_none rfl ci_30 (args2 (lk rfl) (lk rfl)) (fun hG w1 hw => eqUsageRecordS_c (dispU own told vis told.length) (dispU own told vis told.length) _ _ _ _ _ _ _ _ w1 (Sl.own hw (.head _)) (Sl.own hw (.tail _ (.tail _ (.tail _ (.tail _ (.tail _ (.tail _ (.tail _ (.tail _ (.head _)))))))))) (by omega)) ?_
  refine wl_v rfl (val_not (lk rfl)) ?_
  refine wl_nil ?_
  refine px_then ?_
  refine wc_cond (lk rfl) (fun hc8 => ?_) (fun hc8 => ?_)
  · refine wc_seq ?_
    refine wc_region ?_
    refine wl_v rfl (val_assign lkc) ?_
    refine wl_nil ?_
    refine px_then ?_
    refine wc_ret ?_
    refine px_then_ret ?_
    refine fin1 rfl (res_tmp rfl) (fun w1 hw => ?_)
    first | exact ⟨rfl, hw.drop rfl⟩ | (exfalso; revert hc8; simp; done) | (exfalso; revert hc8; simp; omega) | (exfalso; revert hc8; rw [eqRows_refl eqU_refl]; simp; done) | (exfalso; revert hc8; rw [eqRows_refl eqU_refl]; simp; omega) | (exfalso; have h9 := of_decide_eq_true hc8; omega)
  refine wc_skip ?_
  refine px_then ?_
  refine wc_seq ?_
  refine wc_region ?_
  refine wl_v rfl (val_assign lkc) ?_
  refine wl_nil ?_
  refine px_then ?_
  refine wc_seq ?_
  refine wc_region ?_
  refine wl_v rfl (val_move (lk rfl)) ?_
  refine wl_v rfl (val_move (lk rfl)) ?_
  refine wl_call gd_none rfl ci_40 (args2 (lk rfl) (lk rfl)) (fun hG w1 hw => heldUsageRecordS_c _ _ 0 _ _ 1 w1 (Sl.own hw (.tail _ (.tail _ (.tail _ (.tail _ (.tail _ (.head _))))))) (by omega) (by decide)) ?_
  refine wl_v rfl (val_assign (lk rfl)) ?_
  refine wl_nil ?_
  refine px_then ?_
  refine wc_seq ?_
  refine wc_seq ?_
  refine wc_region ?_
  refine wl_v rfl (val_move (lk rfl)) ?_
  refine wl_v rfl (val_lss (lk rfl) lkc) ?_
  refine wl_nil ?_
  refine px_then ?_
  refine wc_cond (lk rfl) (fun hc9 => ?_) (fun hc9 => ?_)
  · refine wc_seq ?_
    refine wc_region ?_
    refine wl_v rfl (val_assign lkc) ?_
    refine wl_nil ?_
    refine px_then ?_
    refine wc_ret ?_
    refine px_then_ret ?_
    refine fin1 rfl (res_tmp rfl) (fun w1 hw => ?_)
    first | exact ⟨rfl, hw.drop rfl⟩ | (exfalso; revert hc9; simp; done) | (exfalso; revert hc9; simp; omega) | (exfalso; revert hc9; rw [eqRows_refl eqU_refl]; simp; done) | (exfalso; revert hc9; rw [eqRows_refl eqU_refl]; simp; omega) | (exfalso; have h9 := of_decide_eq_true hc9; omega)
  refine wc_skip ?_
  refine px_then ?_
  refine wc_seq ?_
  refine wc_seq ?_
  refine wc_region ?_
  refine wl_v rfl (val_move (lk rfl)) ?_
  refine wl_v rfl (val_move (lk rfl)) ?_
  refine wl_v rfl (val_neq (lk rfl) (lk rfl)) ?_
  refine wl_nil ?_
  refine px_then ?_
  refine wc_cond (lk rfl) (fun hc10 => ?_) (fun hc10 => ?_)
  · refine wc_seq ?_
    refine wc_region ?_
    refine wl_v rfl (val_assign lkc) ?_
    refine wl_nil ?_
    refine px_then ?_
    refine wc_ret ?_
    refine px_then_ret ?_
    refine fin1 rfl (res_tmp rfl) (fun w1 hw => ?_)
    first | exact ⟨rfl, hw.drop rfl⟩ | (exfalso; revert hc10; simp; done) | (exfalso; revert hc10; simp; omega) | (exfalso; revert hc10; rw [eqRows_refl eqU_refl]; simp; done) | (exfalso; revert hc10; rw [eqRows_refl eqU_refl]; simp; omega) | (exfalso; have h9 := of_decide_eq_true hc10; omega)
  refine wc_skip ?_
  refine px_then ?_
  refine wc_seq ?_
  refine wc_region ?_
  refine wl_v rfl (val_assign lkc) ?_
  refine wl_nil ?_
  refine px_then ?_
  refine wc_ret ?_
  refine fin1 rfl (res_tmp rfl) (fun w1 hw => ?_)
  first | exact ⟨rfl, hw.drop rfl⟩ | (exfalso; revert hc10; simp; done) | (exfalso; revert hc10; simp; omega) | (exfalso; revert hc10; rw [eqRows_refl eqU_refl]; simp; done) | (exfalso; revert hc10; rw [eqRows_refl eqU_refl]; simp; omega) | (exfalso; have h9 := of_decide_eq_true hc10; omega)

theorem law_MergeRecords (own told : List Rec) (A A2 : Option Addr) (b o c b2 o2 c2 : Nat) (w : World) (hs1 : Sl w A b o (flat encU own)) (hm1 : own.length ≤ 9223372036854775807) (hs2 : Sl w A2 b2 o2 (flat encU told)) (hm2 : told.length ≤ 9223372036854775807) :
    Calls Try.prog 14 #[.slice A own.length c, .slice A2 told.length c2] w fun e w' => e = .returned (.bool true) ∧ HP w [] w' := by
  refine calls_entry [] _ Try.func14 rfl Try.ntmps14 (HP.refl w) (env2 rfl) ?_
  refine wc_seq ?_
  refine wc_region ?_
  refine wl_v rfl (val_assign lkc) ?_
  refine wl_nil ?_
  refine px_then ?_
  refine wc_seq ?_
  refine wc_region ?_
  refine wl_v rfl (val_assign lkc) ?_
  refine wl_nil ?_
  refine px_then ?_
  refine wc_seq ?_
  refine wc_region ?_
  refine wl_v rfl (val_move (lk rfl)) ?_
  refine wl_v rfl (val_move (lk rfl)) ?_
  refine wl_call gd_none rfl ci_26 (args2 (lk rfl) (lk rfl)) (fun hG w1 hw => szUsageRecordS_c _ _ _ _ w1 (by omega) (by omega)) ?_
  refine wl_v rfl (val_assign (lk rfl)) ?_
  refine wl_nil ?_
  refine px_then ?_
  refine wc_seq ?_
  refine wc_seq ?_
  refine wc_region ?_
  refine wl_v rfl (val_move (lk rfl)) ?_
  refine wl_v rfl (val_lss (lk rfl) lkc) ?_
  refine wl_nil ?_
  refine px_then ?_
  refine wc_cond (lk rfl) (fun hc0 => ?_) (fun hc0 => ?_)
  · refine wc_seq ?_
    refine wc_region ?_
    refine wl_v rfl (val_assign lkc) ?_
    refine wl_nil ?_
    refine px_then ?_
    refine wc_ret ?_
    refine px_then_ret ?_
    refine fin1 rfl (res_tmp rfl) (fun w1 hw => ?_)
    first | exact ⟨rfl, hw.drop rfl⟩ | (exfalso; revert hc0; simp; done) | (exfalso; revert hc0; simp; omega) | (exfalso; revert hc0; rw [eqRows_refl eqU_refl]; simp; done) | (exfalso; revert hc0; rw [eqRows_refl eqU_refl]; simp; omega) | (exfalso; have h9 := of_decide_eq_true hc0; omega)
  have hl1 : own.length ≤ 1048576 := by have h9 := of_decide_eq_false hc0; unfold szN at h9; split at h9 <;> omega
  have hz : 0 ≤ szN 1048576 own.length ∧ szN 1048576 own.length ≤ 1048576 := by have h9 := of_decide_eq_false hc0; unfold szN at h9 ⊢; split at h9 <;> rename_i hq <;> simp only [hq] <;> simp <;> omega
  refine wc_skip ?_
  refine px_then ?_
  refine wc_seq ?_
  refine wc_region ?_
  refine wl_v rfl (val_move (lk rfl)) ?_
  refine wl_v rfl (val_move (lk rfl)) ?_
  refine wl_call gd_none rfl ci_26 (args2 (lk rfl) (lk rfl)) (fun hG w1 hw => szUsageRecordS_c _ _ _ _ w1 (by omega) (by omega)) ?_
  refine wl_v rfl (val_assign (lk rfl)) ?_
  refine wl_nil ?_
  refine px_then ?_
  refine wc_seq ?_
  refine wc_seq ?_
  refine wc_region ?_
  refine wl_v rfl (val_move (lk rfl)) ?_
  refine wl_v rfl (val_lss (lk rfl) lkc) ?_
  refine wl_nil ?_
  refine px_then ?_
  refine wc_cond (lk rfl) (fun hc1 => ?_) (fun hc1 => ?_)
  · refine wc_seq ?_
    refine wc_region ?_
    refine wl_v rfl (val_assign lkc) ?_
    refine wl_nil ?_
    refine px_then ?_
    refine wc_ret ?_
    refine px_then_ret ?_
    refine fin1 rfl (res_tmp rfl) (fun w1 hw => ?_)
    first | exact ⟨rfl, hw.drop rfl⟩ | (exfalso; revert hc1; simp; done) | (exfalso; revert hc1; simp; omega) | (exfalso; revert hc1; rw [eqRows_refl eqU_refl]; simp; done) | (exfalso; revert hc1; rw [eqRows_refl eqU_refl]; simp; omega) | (exfalso; have h9 := of_decide_eq_true hc1; omega)
  have hl2 : told.length ≤ 1048576 := by have h9 := of_decide_eq_false hc1; unfold szN at h9; split at h9 <;> omega
  have hdl : (mergeU own told told.length).length ≤ 1048576 := mergeU_len own told hl1 told.length
  refine wc_skip ?_
  refine px_then ?_
  refine wc_seq ?_
  refine wc_region ?_
  refine wl_v rfl (val_move (lk rfl)) ?_
  refine wl_callx rfl ci_28 (args1 (lk rfl)) (fun w1 hw => toUsageRecordS_c own _ _ _ _ w1 (hs1.hp hw rfl) (by omega)) (fun _ => rfl) ?_
  rintro ⟨gb25, gc25, gs25⟩ ⟨hgl25, hgc25⟩
  refine wl_v rfl (val_move (lk rfl)) ?_
  refine wl_callx rfl ci_28 (args1 (lk rfl)) (fun w1 hw => toUsageRecordS_c told _ _ _ _ w1 (hs2.hp hw rfl) (by omega)) (fun _ => rfl) ?_
  rintro ⟨gb27, gc27, gs27⟩ ⟨hgl27, hgc27⟩
  refine wl_callx rfl ci_47 (args2 (lk rfl) (lk rfl)) (fun w1 hw => sMerge_c own told _ _ _ _ _ _ _ _ w1 (Sl.own hw (.tail _ (.head _))) (Sl.own hw (.head _)) (by omega) (by omega)) (fun _ => rfl) ?_
  rintro ⟨gb28, gc28, gs28⟩ ⟨hgl28, hgc28⟩
  refine wl_v rfl (val_assign (lk rfl)) ?_
  refine wl_nil ?_
  refine px_then ?_
  refine wc_seq ?_
  refine wc_region ?_
  refine wl_v rfl (val_move (lk rfl)) ?_
  refine wl_callx rfl ci_28 (args1 (lk rfl)) (fun w1 hw => toUsageRecordS_c own _ _ _ _ w1 (hs1.hp hw rfl) (by omega)) (fun _ => rfl) ?_
  rintro ⟨gb30, gc30, gs30⟩ ⟨hgl30, hgc30⟩
  refine wl_v rfl (val_assign (lk rfl)) ?_
  refine wl_nil ?_
  refine px_then ?_
  refine wc_seq ?_
  refine wc_region ?_
  refine wl_v rfl (val_move (lk rfl)) ?_
  refine wl_callx rfl ci_28 (args1 (lk rfl)) (fun w1 hw => toUsageRecordS_c told _ _ _ _ w1 (hs2.hp hw rfl) (by omega)) (fun _ => rfl) ?_
  rintro ⟨gb32, gc32, gs32⟩ ⟨hgl32, hgc32⟩
  refine wl_v rfl (val_assign (lk rfl)) ?_
  refine wl_nil ?_
  refine px_then ?_
  refine wc_seq ?_
  refine wc_region ?_
  refine wl_v rfl (val_move (lk rfl)) ?_
  refine wl_v rfl (val_move (lk rfl)) ?_
  refine wl_callx rfl ci_48 (args2 (lk rfl) (lk rfl)) (fun w1 hw => Merge_c own told _ _ _ _ _ _ _ _ w1 (Sl.own hw (.tail _ (.head _))) (Sl.own hw (.head _)) (by omega) (by omega)) (fun _ => rfl) ?_
  rintro ⟨gb35, gc35, gs35⟩ ⟨hgl35, hgc35⟩
  refine wl_v rfl (val_assign (lk rfl)) ?_
  refine wl_nil ?_
  refine px_then ?_
  refine wc_seq ?_
  refine wc_seq ?_
  refine wc_region ?_
  refine wl_v rfl (val_move (lk rfl)) ?_
  refine wl_v rfl (val_move (lk rfl)) ?_
  refine wl_call gd_none rfl ci_30 (args2 (lk rfl) (lk rfl)) (fun hG w1 hw => eqUsageRecordS_c (mergeU own told told.length) (mergeU own told told.length) _ _ _ _ _ _ _ _ w1 (Sl.own hw (.head _)) (Sl.own hw (.tail _ (.tail _ (.tail _ (.head _))))) (by omega)) ?_
  refine wl_v rfl (val_not (lk rfl)) ?_
  refine wl_nil ?_
  refine px_then ?_
  refine wc_cond (lk rfl) (fun hc2 => ?_) (fun hc2 => ?_)
  · refine wc_seq ?_
    refine wc_region ?_
    refine wl_v rfl (val_assign lkc) ?_
    refine wl_nil ?_
    refine px_then ?_
    refine wc_ret ?_
    refine px_then_ret ?_
    refine fin1 rfl (res_tmp rfl) (fun w1 hw => ?_)
    first | exact ⟨rfl, hw.drop rfl⟩ | (exfalso; revert hc2; simp; done) | (exfalso; revert hc2; simp; omega) | (exfalso; revert hc2; rw [eqRows_refl eqU_refl]; simp; done) | (exfalso; revert hc2; rw [eqRows_refl eqU_refl]; simp; omega) | (exfalso; have h9 := of_decide_eq_true hc2; omega)
  refine wc_skip ?_
  refine px_then ?_
  refine wc_seq ?_
  refine wc_seq ?_
  refine wc_region ?_
  refine wl_v rfl (val_move (lk rfl)) ?_
  refine wl_v rfl (val_move (lk rfl)) ?_
  refine wl_callx rfl ci_28 (args1 (lk rfl)) (fun w1 hw => toUsageRecordS_c own _ _ _ _ w1 (hs1.hp hw rfl) (by omega)) (fun _ => rfl) ?_
  rintro ⟨gb42, gc42, gs42⟩ ⟨hgl42, hgc42⟩
  refine wl_call gd_none rfl ci_30 (args2 (lk rfl) (lk rfl)) (fun hG w1 hw => eqUsageRecordS_c (own) (own) _ _ _ _ _ _ _ _ w1 (Sl.own hw (.tail _ (.tail _ (.tail _ (.head _))))) (Sl.own hw (.head _)) (by omega)) ?_
  refine wl_v rfl (val_not (lk rfl)) ?_
  refine wl_nil ?_
  refine px_then ?_
  refine wc_cond (lk rfl) (fun hc3 => ?_) (fun hc3 => ?_)
  · refine wc_seq ?_
    refine wc_region ?_
    refine wl_v rfl (val_assign lkc) ?_
    refine wl_nil ?_
    refine px_then ?_
    refine wc_ret ?_
    refine px_then_ret ?_
    refine fin1 rfl (res_tmp rfl) (fun w1 hw => ?_)
    first | exact ⟨rfl, hw.drop rfl⟩ | (exfalso; revert hc3; simp; done) | (exfalso; revert hc3; simp; omega) | (exfalso; revert hc3; rw [eqRows_refl eqU_refl]; simp; done) | (exfalso; revert hc3; rw [eqRows_refl eqU_refl]; simp; omega) | (exfalso; have h9 := of_decide_eq_true hc3; omega)
  refine wc_skip ?_
  refine px_then ?_
  refine wc_seq ?_
  refine wc_seq ?_
  refine wc_region ?_
  refine wl_v rfl (val_move (lk rfl)) ?_
  refine wl_v rfl (val_move (lk rfl)) ?_
  refine wl_callx rfl ci_28 (args1 (lk rfl)) (fun w1 hw => toUsageRecordS_c told _ _ _ _ w1 (hs2.hp hw rfl) (by omega)) (fun _ => rfl) ?_
  rintro ⟨gb47, gc47, gs47⟩ ⟨hgl47, hgc47⟩
  refine wl_call gd_none rfl ci_30 (args2 (lk rfl) (lk rfl)) (fun hG w1 hw => eqUsageRecordS_c (told) (told) _ _ _ _ _ _ _ _ w1 (Sl.own hw (.tail _ (.tail _ (.tail _ (.head _))))) (Sl.own hw (.head _)) (by omega)) ?_
  refine wl_v rfl (val_not (lk rfl)) ?_
  refine wl_nil ?_
  refine px_then ?_
  refine wc_cond (lk rfl) (fun hc4 => ?_) (fun hc4 => ?_)
  · refine wc_seq ?_
    refine wc_region ?_
    refine wl_v rfl (val_assign lkc) ?_
    refine wl_nil ?_
    refine px_then ?_
    refine wc_ret ?_
    refine px_then_ret ?_
    refine fin1 rfl (res_tmp rfl) (fun w1 hw => ?_)
    first | exact ⟨rfl, hw.drop rfl⟩ | (exfalso; revert hc4; simp; done) | (exfalso; revert hc4; simp; omega) | (exfalso; revert hc4; rw [eqRows_refl eqU_refl]; simp; done) | (exfalso; revert hc4; rw [eqRows_refl eqU_refl]; simp; omega) | (exfalso; have h9 := of_decide_eq_true hc4; omega)
  refine wc_skip ?_
  refine px_then ?_
  refine wc_seq ?_
  refine wc_region ?_
  refine wl_v rfl (val_assign lkc) ?_
  refine wl_nil ?_
  refine px_then ?_
  refine wc_seq ?_
  refine wc_region ?_
  refine wl_v rfl (val_move (lk rfl)) ?_
  refine wl_v rfl (val_move (lk rfl)) ?_
  refine wl_callw 4 rfl ci_39 (args2 (lk rfl) (lk rfl)) rfl (fun w1 hw => markUsageRecordS_c _ _ _ _ (1) _ w1 (fun _ => rfl) (hw.own _ (.tail _ (.tail _ (.tail _ (.tail _ (.head _)))))) (by omega) (by omega) (by rw [List.length_append, flat_len encU_len]; omega)) (fun _ => rfl) ?_
  rintro ⟨⟩ -
  refine wl_v rfl (val_assign (lk rfl)) ?_
  refine wl_nil ?_
  refine px_then ?_
  refine wc_seq ?_
  refine wc_region ?_
  refine wl_v rfl (val_move (lk rfl)) ?_
  refine wl_v rfl (val_move (lk rfl)) ?_
  refine wl_callw 3 rfl ci_39 (args2 (lk rfl) (lk rfl)) rfl (fun w1 hw => markUsageRecordS_c _ _ _ _ (1 + own.length * 4) _ w1 (fun _ => rfl) (hw.own _ (.tail _ (.tail _ (.tail _ (.head _))))) (by omega) (by omega) (by rw [List.length_append, flat_len encU_len]; omega)) (fun _ => rfl) ?_
  rintro ⟨⟩ -
  refine wl_v rfl (val_assign (lk rfl)) ?_
  refine wl_nil ?_
  refine px_then ?_
  refine wc_seq ?_
  refine wc_seq ?_
  refine wc_region ?_
  refine wl_v rfl (val_move (lk rfl)) ?_
  refine wl_v rfl (val_lss (lk rfl) lkc) ?_
  refine wl_v rfl (val_move (lk rfl)) ?_
  refine wl_val (gd_f rfl rfl rfl) rfl (val_move (lk rfl)) ?_
  refine wl_val (gd_f rfl rfl rfl) rfl (val_move (lk rfl)) ?_
  refine wl_call (gd_f rfl rfl rfl) rfl ci_30 (args2 (lkg rfl) (lkg rfl)) (fun hG w1 hw => eqUsageRecordS_c (mergeU own told told.length) (mergeU own told told.length) _ _ _ _ _ _ _ _ w1 (Sl.own hw (.tail _ (.tail _ (.head _)))) (Sl.own hw (.tail _ (.tail _ (.tail _ (.tail _ (.tail _ (.head _))))))) (by omega)) ?_
  refine wl_val (gd_f rfl rfl rfl) rfl (val_not (lkg rfl)) ?_
  refine wl_v rfl (val_or (lk rfl) (lkg rfl)) ?_
  refine wl_nil ?_
  refine px_then ?_
  refine wc_cond (lk rfl) (fun hc5 => ?_) (fun hc5 => ?_)
  · refine wc_seq ?_
    refine wc_region ?_
    refine wl_v rfl (val_assign lkc) ?_
    refine wl_nil ?_
    refine px_then ?_
    refine wc_ret ?_
    refine px_then_ret ?_
    refine fin1 rfl (res_tmp rfl) (fun w1 hw => ?_)
    first | exact ⟨rfl, hw.drop rfl⟩ | (exfalso; revert hc5; simp; done) | (exfalso; revert hc5; simp; omega) | (exfalso; revert hc5; rw [eqRows_refl eqU_refl]; simp; done) | (exfalso; revert hc5; rw [eqRows_refl eqU_refl]; simp; omega) | (exfalso; have h9 := of_decide_eq_true hc5; omega)
  refine wc_skip ?_
  refine px_then ?_
  refine wc_seq ?_
  refine wc_region ?_
  refine wl_v rfl (val_assign lkc) ?_
  refine wl_nil ?_
  refine px_then ?_
  refine wc_seq ?_
  refine wc_region ?_
  refine wl_v rfl (val_move (lk rfl)) ?_
  refine wl_v rfl (val_move (lk rfl)) ?_
  refine wl_callw 2 rfl ci_39 (args2 (lk rfl) (lk rfl)) rfl (fun w1 hw => markUsageRecordS_c _ _ _ _ (1) _ w1 (fun _ => rfl) (hw.own _ (.tail _ (.tail _ (.head _)))) (by omega) (by omega) (by rw [List.length_append, flat_len encU_len]; omega)) (fun _ => rfl) ?_
  rintro ⟨⟩ -
  refine wl_v rfl (val_assign (lk rfl)) ?_
  refine wl_nil ?_
  refine px_then ?_
  refine wc_seq ?_
  refine wc_region ?_
  refine wl_v rfl (val_assign lkc) ?_
  refine wl_nil ?_
  refine px_then ?_
  refine wc_seq ?_
  refine wc_region ?_
  refine wl_v rfl (val_move (lk rfl)) ?_
  refine wl_v rfl (val_move (lk rfl)) ?_
  refine wl_call gd_none rfl ci_40 (args2 (lk rfl) (lk rfl)) (fun hG w1 hw => heldUsageRecordS_c _ _ 0 _ _ 1 w1 (Sl.own hw (.tail _ (.tail _ (.head _)))) (by omega) (by decide)) ?_
  refine wl_v rfl (val_assign (lk rfl)) ?_
  refine wl_nil ?_
  refine px_then ?_
  refine wc_seq ?_
  refine wc_seq ?_
  refine wc_region ?_
  refine wl_v rfl (val_move (lk rfl)) ?_
  refine wl_v rfl (val_lss (lk rfl) lkc) ?_
  refine wl_nil ?_
  refine px_then ?_
  refine wc_cond (lk rfl) (fun hc6 => ?_) (fun hc6 => ?_)
  · refine wc_seq ?_
    refine wc_region ?_
    refine wl_v rfl (val_assign lkc) ?_
    refine wl_nil ?_
    refine px_then ?_
    refine wc_ret ?_
    refine px_then_ret ?_
    refine fin1 rfl (res_tmp rfl) (fun w1 hw => ?_)
    first | exact ⟨rfl, hw.drop rfl⟩ | (exfalso; revert hc6; simp; done) | (exfalso; revert hc6; simp; omega) | (exfalso; revert hc6; rw [eqRows_refl eqU_refl]; simp; done) | (exfalso; revert hc6; rw [eqRows_refl eqU_refl]; simp; omega) | (exfalso; have h9 := of_decide_eq_true hc6; omega)
  refine wc_skip ?_
  refine px_then ?_
  refine wc_seq ?_
  refine wc_seq ?_
  refine wc_region ?_
  refine wl_v rfl (val_move (lk rfl)) ?_
  refine wl_v rfl (val_move (lk rfl)) ?_
  refine wl_v rfl (val_neq (lk rfl) (lk rfl)) ?_
  refine wl_nil ?_
  refine px_then ?_
  refine wc_cond (lk rfl) (fun hc7 => ?_) (fun hc7 => ?_)
  · refine wc_seq ?_
    refine wc_region ?_
    refine wl_v rfl (val_assign lkc) ?_
    refine wl_nil ?_
    refine px_then ?_
    refine wc_ret ?_
    refine px_then_ret ?_
    refine fin1 rfl (res_tmp rfl) (fun w1 hw => ?_)
    first | exact ⟨rfl, hw.drop rfl⟩ | (exfalso; revert hc7; simp; done) | (exfalso; revert hc7; simp; omega) | (exfalso; revert hc7; rw [eqRows_refl eqU_refl]; simp; done) | (exfalso; revert hc7; rw [eqRows_refl eqU_refl]; simp; omega) | (exfalso; have h9 := of_decide_eq_true hc7; omega)
  refine wc_skip ?_
  refine px_then ?_
  refine wc_seq ?_
  refine wc_region ?_
  refine wl_v rfl (val_move (lk rfl)) ?_
  refine wl_callx rfl ci_28 (args1 (lk rfl)) (fun w1 hw => toUsageRecordS_c own _ _ _ _ w1 (hs1.hp hw rfl) (by omega)) (fun _ => rfl) ?_
  rintro ⟨gb76, gc76, gs76⟩ ⟨hgl76, hgc76⟩
  refine wl_v rfl (val_move (lk rfl)) ?_
  refine wl_callx rfl ci_28 (args1 (lk rfl)) (fun w1 hw => toUsageRecordS_c told _ _ _ _ w1 (hs2.hp hw rfl) (by omega)) (fun _ => rfl) ?_
  rintro ⟨gb78, gc78, gs78⟩ ⟨hgl78, hgc78⟩
  refine wl_callx rfl ci_48 (args2 (lk rfl) (lk rfl)) (fun w1 hw => Merge_c own told _ _ _ _ _ _ _ _ w1 (Sl.own hw (.tail _ (.head _))) (Sl.own hw (.head _)) (by omega) (by omega)) (fun _ => rfl) ?_
  rintro ⟨gb79, gc79, gs79⟩ ⟨hgl79, hgc79⟩
  refine wl_v rfl (val_assign (lk rfl)) ?_
  refine wl_nil ?_
  refine px_then ?_
  refine wc_seq ?_
  refine wc_seq ?_
  refine wc_region ?_
  refine wl_v rfl (val_move (lk rfl)) ?_
  refine wl_v rfl (val_move (lk rfl)) ?_
  refine wl_call gd_none rfl ci_30 (args2 (lk rfl) (lk rfl)) (fun hG w1 hw => eqUsageRecordS_c (mergeU own told told.length) (mergeU own told told.length) _ _ _ _ _ _ _ _ w1 (Sl.own hw (.head _)) (Sl.own hw (.tail _ (.tail _ (.tail _ (.tail _ (.tail _ (.tail _ (.tail _ (.tail _ (.head _)))))))))) (by omega)) ?_
  refine wl_v rfl (val_not (lk rfl)) ?_
  refine wl_nil ?_
  refine px_then ?_
  refine wc_cond (lk rfl) (fun hc8 => ?_) (fun hc8 => ?_)
  · refine wc_seq ?_
    refine wc_region ?_
    refine wl_v rfl (val_assign lkc) ?_
    refine wl_nil ?_
    refine px_then ?_
    refine wc_ret ?_
    refine px_then_ret ?_
    refine fin1 rfl (res_tmp rfl) (fun w1 hw => ?_)
    first | exact ⟨rfl, hw.drop rfl⟩ | (exfalso; revert hc8; simp; done) | (exfalso; revert hc8; simp; omega) | (exfalso; revert hc8; rw [eqRows_refl eqU_refl]; simp; done) | (exfalso; revert hc8; rw [eqRows_refl eqU_refl]; simp; omega) | (exfalso; have h9 := of_decide_eq_true hc8; omega)
  refine wc_skip ?_
  refine px_then ?_
  refine wc_seq ?_
  refine wc_region ?_
  refine wl_v rfl (val_assign lkc) ?_
  refine wl_nil ?_
  refine px_then ?_
  refine wc_seq ?_
  refine wc_region ?_
  refine wl_v rfl (val_move (lk rfl)) ?_
  refine wl_v rfl (val_move (lk rfl)) ?_
  refine wl_call gd_none rfl ci_40 (args2 (lk rfl) (lk rfl)) (fun hG w1 hw => heldUsageRecordS_c _ _ 0 _ _ 1 w1 (Sl.own hw (.tail _ (.tail _ (.tail _ (.tail _ (.tail _ (.head _))))))) (by omega) (by decide)) ?_
  refine wl_v rfl (val_assign (lk rfl)) ?_
  refine wl_nil ?_
  refine px_then ?_
  refine wc_seq ?_
  refine wc_seq ?_
  refine wc_region ?_
  refine wl_v rfl (val_move (lk rfl)) ?_
  refine wl_v rfl (val_lss (lk rfl) lkc) ?_
  refine wl_nil ?_
  refine px_then ?_
  refine wc_cond (lk rfl) (fun hc9 => ?_) (fun hc9 => ?_)
  · refine wc_seq ?_
    refine wc_region ?_
    refine wl_v rfl (val_assign lkc) ?_
    refine wl_nil ?_
    refine px_then ?_
    refine wc_ret ?_
    refine px_then_ret ?_
    refine fin1 rfl (res_tmp rfl) (fun w1 hw => ?_)
    first | exact ⟨rfl, hw.drop rfl⟩ | (exfalso; revert hc9; simp; done) | (exfalso; revert hc9; simp; omega) | (exfalso; revert hc9; rw [eqRows_refl eqU_refl]; simp; done) | (exfalso; revert hc9; rw [eqRows_refl eqU_refl]; simp; omega) | (exfalso; have h9 := of_decide_eq_true hc9; omega)
  refine wc_skip ?_
  refine px_then ?_
  refine wc_seq ?_
  refine wc_seq ?_
  refine wc_region ?_
  refine wl_v rfl (val_move (lk rfl)) ?_
  refine wl_v rfl (val_move (lk rfl)) ?_
  refine wl_v rfl (val_neq (lk rfl) (lk rfl)) ?_
  refine wl_nil ?_
  refine px_then ?_
  refine wc_cond (lk rfl) (fun hc10 => ?_) (fun hc10 => ?_)
  · refine wc_seq ?_
    refine wc_region ?_
    refine wl_v rfl (val_assign lkc) ?_
    refine wl_nil ?_
    refine px_then ?_
    refine wc_ret ?_
    refine px_then_ret ?_
    refine fin1 rfl (res_tmp rfl) (fun w1 hw => ?_)
    first | exact ⟨rfl, hw.drop rfl⟩ | (exfalso; revert hc10; simp; done) | (exfalso; revert hc10; simp; omega) | (exfalso; revert hc10; rw [eqRows_refl eqU_refl]; simp; done) | (exfalso; revert hc10; rw [eqRows_refl eqU_refl]; simp; omega) | (exfalso; have h9 := of_decide_eq_true hc10; omega)
  refine wc_skip ?_
  refine px_then ?_
  refine wc_seq ?_
  refine wc_region ?_
  refine wl_v rfl (val_assign lkc) ?_
  refine wl_nil ?_
  refine px_then ?_
  refine wc_ret ?_
  refine fin1 rfl (res_tmp rfl) (fun w1 hw => ?_)
  first | exact ⟨rfl, hw.drop rfl⟩ | (exfalso; revert hc10; simp; done) | (exfalso; revert hc10; simp; omega) | (exfalso; revert hc10; rw [eqRows_refl eqU_refl]; simp; done) | (exfalso; revert hc10; rw [eqRows_refl eqU_refl]; simp; omega) | (exfalso; have h9 := of_decide_eq_true hc10; omega)

theorem law_AppendRecord (rs : List Rec) (A : Option Addr) (b o c : Nat) (r : Rec) (w : World) (hs : Sl w A b o (flat encU rs)) (hm : rs.length ≤ 9223372036854775807) :
    Calls Try.prog 11 #[.slice A rs.length c, .agg (recV encU r).toArray] w fun e w' => e = .returned (.bool true) ∧ HP w [] w' := by
  refine calls_entry [] _ Try.func11 rfl Try.ntmps11 (HP.refl w) (env2 rfl) ?_
  refine wc_seq ?_
  refine wc_region ?_
  refine wl_box (lk rfl) rfl fun b1 => ?_
  refine wl_v rfl (val_assign lkc) ?_
  refine wl_nil ?_
  refine px_then ?_
  refine wc_seq ?_
  refine wc_region ?_
  refine wl_v rfl (val_assign lkc) ?_
  refine wl_nil ?_
  refine px_then ?_
  refine wc_seq ?_
  refine wc_region ?_
  refine wl_v rfl (val_move (lk rfl)) ?_
  refine wl_v rfl (val_move (lk rfl)) ?_
  refine wl_call gd_none rfl ci_26 (args2 (lk rfl) (lk rfl)) (fun hG w1 hw => szUsageRecordS_c _ _ _ _ w1 (by omega) hm) ?_
  refine wl_v rfl (val_assign (lk rfl)) ?_
  refine wl_nil ?_
  refine px_then ?_
  refine wc_seq ?_
  refine wc_seq ?_
  refine wc_region ?_
  refine wl_v rfl (val_move (lk rfl)) ?_
  refine wl_v rfl (val_lss (lk rfl) lkc) ?_
  refine wl_nil ?_
  refine px_then ?_
  refine wc_cond (lk rfl) (fun hc0 => ?_) (fun hc0 => ?_)
  · refine wc_seq ?_
    refine wc_region ?_
    refine wl_v rfl (val_assign lkc) ?_
    refine wl_nil ?_
    refine px_then ?_
    refine wc_ret ?_
    refine px_then_ret ?_
    refine fin1 rfl (res_tmp rfl) (fun w1 hw => ?_)
    first | exact ⟨rfl, hw.drop rfl⟩ | (exfalso; revert hc0; simp; done) | (exfalso; revert hc0; simp; omega) | (exfalso; revert hc0; rw [eqRows_refl eqU_refl]; simp; done) | (exfalso; revert hc0; rw [eqRows_refl eqU_refl]; simp; omega) | (exfalso; have h9 := of_decide_eq_true hc0; omega)
  have hl : rs.length ≤ 1048576 := by have h9 := of_decide_eq_false hc0; unfold szN at h9; split at h9 <;> omega
  have hdl : (appU rs r).length ≤ 1048576 := appU_len rs r hl
  refine wc_skip ?_
  refine px_then ?_
  refine wc_seq ?_
  refine wc_region_a0 10 mo_ rfl ?_
  refine wa_take 0 rfl (by kernel_rfl) (by kernel_rfl) (by kernel_rfl) (fun _ h => h.dropN 0 rfl) gd_none rfl (val_move (lk rfl)) ?_
  refine wa_take 2 rfl (by kernel_rfl) (by kernel_rfl) (by kernel_rfl) (fun _ h => h.dropN 0 rfl) gd_none rfl (val_loadB (.head _) (lk rfl) ag_29) ?_
  refine wa_only 1 (by kernel_rfl) rfl ?_
  refine wl_callx rfl ci_28 (args1 (lk rfl)) (fun w1 hw => toUsageRecordS_c rs _ _ _ _ w1 (hs.hp hw rfl) (by omega)) (fun _ => rfl) ?_
  rintro ⟨gb23, gc23, gs23⟩ ⟨hgl23, hgc23⟩
  refine wl_nil (px_qn (fun _ h => h.dropN 1 rfl) ?_)
  refine wa_only 3 (by kernel_rfl) rfl ?_
  refine wl_call gd_none rfl ci_19 (args1 (lk rfl)) (fun hG w1 hw => toUsageRecord_c r w1) ?_
  refine wl_nil (px_qn (fun _ h => h.dropN 1 rfl) ?_)
  refine wa_only 4 (by kernel_rfl) rfl ?_
  refine wl_callx rfl ci_41 (args2 (lk rfl) (lk rfl)) (fun w1 hw => sApp_c rs _ _ _ _ r w1 (Sl.own hw (.head _)) (by omega)) (fun _ => rfl) ?_
  rintro ⟨gb26, gc26, gs26⟩ ⟨hgl26, hgc26⟩
  refine wl_nil (px_qn (fun _ h => h.dropN 2 rfl) ?_)
  refine wa_take 5 rfl (by kernel_rfl) (by kernel_rfl) (by kernel_rfl) (fun _ h => h.dropN 2 rfl) gd_none rfl (val_move (lk rfl)) ?_
  refine wa_take 6 rfl (by kernel_rfl) (by kernel_rfl) (by kernel_rfl) (fun _ h => h.dropN 2 rfl) gd_none rfl (val_extract (lk rfl) rfl) ?_
  refine wa_take 7 rfl (by kernel_rfl) (by kernel_rfl) (by kernel_rfl) (fun _ h => h.dropN 2 rfl) gd_none rfl (val_extract (lk rfl) rfl) ?_
  refine wa_take 8 rfl (by kernel_rfl) (by kernel_rfl) (by kernel_rfl) (fun _ h => h.dropN 2 rfl) gd_none rfl (val_assign (lk rfl)) ?_
  refine wa_take 9 rfl (by kernel_rfl) (by kernel_rfl) (by kernel_rfl) (fun _ h => h.dropN 2 rfl) gd_none rfl (val_assign (lk rfl)) ?_
  refine wa_done (by kernel_rfl) ?_
  refine px_then ?_
  refine wc_seq ?_
  refine wc_region ?_
  refine wl_v rfl (val_move (lk rfl)) ?_
  refine wl_callx rfl ci_28 (args1 (lk rfl)) (fun w1 hw => toUsageRecordS_c rs _ _ _ _ w1 (hs.hp hw rfl) (by omega)) (fun _ => rfl) ?_
  rintro ⟨gb30, gc30, gs30⟩ ⟨hgl30, hgc30⟩
  refine wl_v rfl (val_assign (lk rfl)) ?_
  refine wl_nil ?_
  refine px_then ?_
  refine wc_seq ?_
  refine wc_region ?_
  refine wl_v rfl (val_move (lk rfl)) ?_
  refine wl_v rfl (val_loadB (.tail _ (.tail _ (.tail _ (.head _)))) (lk rfl) ag_29) ?_
  refine wl_call gd_none rfl ci_19 (args1 (lk rfl)) (fun hG w1 hw => toUsageRecord_c r w1) ?_
  refine wl_callx rfl ci_42 (args2 (lk rfl) (lk rfl)) (fun w1 hw => App_c rs _ _ _ _ r w1 (Sl.own hw (.head _)) (by omega)) (fun _ => rfl) ?_
  rintro ⟨gb35, gc35, gs35⟩ ⟨hgl35, hgc35⟩
  refine wl_v rfl (val_move (lk rfl)) ?_
  refine wl_v rfl (val_extract (lk rfl) rfl) ?_
  refine wl_v rfl (val_extract (lk rfl) rfl) ?_
  refine wl_v rfl (val_assign (lk rfl)) ?_
  refine wl_v rfl (val_assign (lk rfl)) ?_
  refine wl_nil ?_
  refine px_then ?_
  refine wc_seq ?_
  refine wc_seq ?_
  refine wc_region ?_
  refine wl_v rfl (val_move (lk rfl)) ?_
  refine wl_v rfl (val_move (lk rfl)) ?_
  refine wl_call gd_none rfl ci_30 (args2 (lk rfl) (lk rfl)) (fun hG w1 hw => eqUsageRecordS_c (appU rs r) (appU rs r) _ _ _ _ _ _ _ _ w1 (Sl.own hw (.head _)) (Sl.own hw (.tail _ (.tail _ (.head _)))) (by omega)) ?_
  refine wl_v rfl (val_not (lk rfl)) ?_
  refine wl_v rfl (val_move (lk rfl)) ?_
  refine wl_val (gd_f rfl rfl rfl) rfl (val_move (lk rfl)) ?_
  refine wl_val (gd_f rfl rfl rfl) rfl (val_move (lk rfl)) ?_
  refine wl_val (gd_f rfl rfl rfl) rfl (val_neqB Try.underlying4 (lkg rfl) (lkg rfl)) ?_
  refine wl_v rfl (val_or (lk rfl) (lkg rfl)) ?_
  refine wl_nil ?_
  refine px_then ?_
  refine wc_cond (lk rfl) (fun hc1 => ?_) (fun hc1 => ?_)
  · refine wc_seq ?_
    refine wc_region ?_
    refine wl_v rfl (val_assign lkc) ?_
    refine wl_nil ?_
    refine px_then ?_
    refine wc_ret ?_
    refine px_then_ret ?_
    refine fin1 rfl (res_tmp rfl) (fun w1 hw => ?_)
    first | exact ⟨rfl, hw.drop rfl⟩ | (exfalso; revert hc1; simp; done) | (exfalso; revert hc1; simp; omega) | (exfalso; revert hc1; rw [eqRows_refl eqU_refl]; simp; done) | (exfalso; revert hc1; rw [eqRows_refl eqU_refl]; simp; omega) | (exfalso; have h9 := of_decide_eq_true hc1; omega)
  refine wc_skip ?_
  refine px_then ?_
  refine wc_seq ?_
  refine wc_seq ?_
  refine wc_region ?_
  refine wl_v rfl (val_move (lk rfl)) ?_
  refine wl_v rfl (val_move (lk rfl)) ?_
  refine wl_callx rfl ci_28 (args1 (lk rfl)) (fun w1 hw => toUsageRecordS_c rs _ _ _ _ w1 (hs.hp hw rfl) (by omega)) (fun _ => rfl) ?_
  rintro ⟨gb49, gc49, gs49⟩ ⟨hgl49, hgc49⟩
  refine wl_call gd_none rfl ci_30 (args2 (lk rfl) (lk rfl)) (fun hG w1 hw => eqUsageRecordS_c (rs) (rs) _ _ _ _ _ _ _ _ w1 (Sl.own hw (.tail _ (.tail _ (.head _)))) (Sl.own hw (.head _)) (by omega)) ?_
  refine wl_v rfl (val_not (lk rfl)) ?_
  refine wl_nil ?_
  refine px_then ?_
  refine wc_cond (lk rfl) (fun hc2 => ?_) (fun hc2 => ?_)
  · refine wc_seq ?_
    refine wc_region ?_
    refine wl_v rfl (val_assign lkc) ?_
    refine wl_nil ?_
    refine px_then ?_
    refine wc_ret ?_
    refine px_then_ret ?_
    refine fin1 rfl (res_tmp rfl) (fun w1 hw => ?_)
    first | exact ⟨rfl, hw.drop rfl⟩ | (exfalso; revert hc2; simp; done) | (exfalso; revert hc2; simp; omega) | (exfalso; revert hc2; rw [eqRows_refl eqU_refl]; simp; done) | (exfalso; revert hc2; rw [eqRows_refl eqU_refl]; simp; omega) | (exfalso; have h9 := of_decide_eq_true hc2; omega)
  refine wc_skip ?_
  refine px_then ?_
  refine wc_seq ?_
  refine wc_region ?_
  refine wl_v rfl (val_assign lkc) ?_
  refine wl_nil ?_
  refine px_then ?_
  refine wc_seq ?_
  refine wc_region ?_
  refine wl_v rfl (val_move (lk rfl)) ?_
  refine wl_v rfl (val_move (lk rfl)) ?_
  refine wl_callw 2 rfl ci_39 (args2 (lk rfl) (lk rfl)) rfl (fun w1 hw => markUsageRecordS_c _ _ _ _ (1) _ w1 (fun _ => rfl) (hw.own _ (.tail _ (.tail _ (.head _)))) (by omega) (by omega) (by rw [List.length_append, flat_len encU_len]; omega)) (fun _ => rfl) ?_
  rintro ⟨⟩ -
  refine wl_v rfl (val_assign (lk rfl)) ?_
  refine wl_nil ?_
  refine px_then ?_
  refine wc_seq ?_
  refine wc_seq ?_
  refine wc_region ?_
  refine wl_v rfl (val_move (lk rfl)) ?_
  refine wl_v rfl (val_lss (lk rfl) lkc) ?_
  refine wl_v rfl (val_move (lk rfl)) ?_
  refine wl_val (gd_f rfl rfl rfl) rfl (val_move (lk rfl)) ?_
  refine wl_val (gd_f rfl rfl rfl) rfl (val_move (lk rfl)) ?_
  refine wl_call (gd_f rfl rfl rfl) rfl ci_30 (args2 (lkg rfl) (lkg rfl)) (fun hG w1 hw => eqUsageRecordS_c (appU rs r) (appU rs r) _ _ _ _ _ _ _ _ w1 (Sl.own hw (.tail _ (.head _))) (Sl.own hw (.tail _ (.tail _ (.tail _ (.head _))))) (by omega)) ?_
  refine wl_val (gd_f rfl rfl rfl) rfl (val_not (lkg rfl)) ?_
  refine wl_v rfl (val_or (lk rfl) (lkg rfl)) ?_
  refine wl_v rfl (val_move (lk rfl)) ?_
  refine wl_val (gd_f rfl rfl rfl) rfl (val_move (lk rfl)) ?_
  refine wl_val (gd_f rfl rfl rfl) rfl (val_move (lk rfl)) ?_
  refine wl_val (gd_f rfl rfl rfl) rfl (val_neqB Try.underlying4 (lkg rfl) (lkg rfl)) ?_
  refine wl_v rfl (val_or (lk rfl) (lkg rfl)) ?_
  refine wl_nil ?_
  refine px_then ?_
  refine wc_cond (lk rfl) (fun hc3 => ?_) (fun hc3 => ?_)
  · refine wc_seq ?_
    refine wc_region ?_
    refine wl_v rfl (val_assign lkc) ?_
    refine wl_nil ?_
    refine px_then ?_
    refine wc_ret ?_
    refine px_then_ret ?_
    refine fin1 rfl (res_tmp rfl) (fun w1 hw => ?_)
    first | exact ⟨rfl, hw.drop rfl⟩ | (exfalso; revert hc3; simp; done) | (exfalso; revert hc3; simp; omega) | (exfalso; revert hc3; rw [eqRows_refl eqU_refl]; simp; done) | (exfalso; revert hc3; rw [eqRows_refl eqU_refl]; simp; omega) | (exfalso; have h9 := of_decide_eq_true hc3; omega)
  refine wc_skip ?_
  refine px_then ?_
  refine wc_seq ?_
  refine wc_region ?_
  refine wl_v rfl (val_assign lkc) ?_
  refine wl_nil ?_
  refine px_then ?_
  refine wc_seq ?_
  refine wc_region ?_
  refine wl_v rfl (val_move (lk rfl)) ?_
  refine wl_v rfl (val_move (lk rfl)) ?_
  refine wl_callw 1 rfl ci_39 (args2 (lk rfl) (lk rfl)) rfl (fun w1 hw => markUsageRecordS_c _ _ _ _ (1) _ w1 (fun _ => rfl) (hw.own _ (.tail _ (.head _))) (by omega) (by omega) (by rw [List.length_append, flat_len encU_len]; omega)) (fun _ => rfl) ?_
  rintro ⟨⟩ -
  refine wl_v rfl (val_assign (lk rfl)) ?_
  refine wl_nil ?_
  refine px_then ?_
  refine wc_seq ?_
  refine wc_region ?_
  refine wl_v rfl (val_assign lkc) ?_
  refine wl_nil ?_
  refine px_then ?_
  refine wc_seq ?_
  refine wc_region ?_
  refine wl_v rfl (val_move (lk rfl)) ?_
  refine wl_v rfl (val_move (lk rfl)) ?_
  refine wl_call gd_none rfl ci_40 (args2 (lk rfl) (lk rfl)) (fun hG w1 hw => heldUsageRecordS_c _ _ 0 _ _ 1 w1 (Sl.own hw (.tail _ (.head _))) (by omega) (by decide)) ?_
  refine wl_v rfl (val_assign (lk rfl)) ?_
  refine wl_nil ?_
  refine px_then ?_
  refine wc_seq ?_
  refine wc_seq ?_
  refine wc_region ?_
  refine wl_v rfl (val_move (lk rfl)) ?_
  refine wl_v rfl (val_lss (lk rfl) lkc) ?_
  refine wl_nil ?_
  refine px_then ?_
  refine wc_cond (lk rfl) (fun hc4 => ?_) (fun hc4 => ?_)
  · refine wc_seq ?_
    refine wc_region ?_
    refine wl_v rfl (val_assign lkc) ?_
    refine wl_nil ?_
    refine px_then ?_
    refine wc_ret ?_
    refine px_then_ret ?_
    refine fin1 rfl (res_tmp rfl) (fun w1 hw => ?_)
    first | exact ⟨rfl, hw.drop rfl⟩ | (exfalso; revert hc4; simp; done) | (exfalso; revert hc4; simp; omega) | (exfalso; revert hc4; rw [eqRows_refl eqU_refl]; simp; done) | (exfalso; revert hc4; rw [eqRows_refl eqU_refl]; simp; omega) | (exfalso; have h9 := of_decide_eq_true hc4; omega)
  refine wc_skip ?_
  refine px_then ?_
  refine wc_seq ?_
  refine wc_seq ?_
  refine wc_region ?_
  refine wl_v rfl (val_move (lk rfl)) ?_
  refine wl_v rfl (val_move (lk rfl)) ?_
  refine wl_v rfl (val_neq (lk rfl) (lk rfl)) ?_
  refine wl_nil ?_
  refine px_then ?_
  refine wc_cond (lk rfl) (fun hc5 => ?_) (fun hc5 => ?_)
  · refine wc_seq ?_
    refine wc_region ?_
    refine wl_v rfl (val_assign lkc) ?_
    refine wl_nil ?_
    refine px_then ?_
    refine wc_ret ?_
    refine px_then_ret ?_
    refine fin1 rfl (res_tmp rfl) (fun w1 hw => ?_)
    first | exact ⟨rfl, hw.drop rfl⟩ | (exfalso; revert hc5; simp; done) | (exfalso; revert hc5; simp; omega) | (exfalso; revert hc5; rw [eqRows_refl eqU_refl]; simp; done) | (exfalso; revert hc5; rw [eqRows_refl eqU_refl]; simp; omega) | (exfalso; have h9 := of_decide_eq_true hc5; omega)
  refine wc_skip ?_
  refine px_then ?_
  refine wc_seq ?_
  refine wc_region_a0 10 mo_ rfl ?_
  refine wa_take 0 rfl (by kernel_rfl) (by kernel_rfl) (by kernel_rfl) (fun _ h => h.dropN 0 rfl) gd_none rfl (val_move (lk rfl)) ?_
  refine wa_take 2 rfl (by kernel_rfl) (by kernel_rfl) (by kernel_rfl) (fun _ h => h.dropN 0 rfl) gd_none rfl (val_loadB (.tail _ (.tail _ (.tail _ (.tail _ (.tail _ (.head _)))))) (lk rfl) ag_29) ?_
  refine wa_only 1 (by kernel_rfl) rfl ?_
  refine wl_callx rfl ci_28 (args1 (lk rfl)) (fun w1 hw => toUsageRecordS_c rs _ _ _ _ w1 (hs.hp hw rfl) (by omega)) (fun _ => rfl) ?_
  rintro ⟨gb81, gc81, gs81⟩ ⟨hgl81, hgc81⟩
  refine wl_nil (px_qn (fun _ h => h.dropN 1 rfl) ?_)
  refine wa_only 3 (by kernel_rfl) rfl ?_
  refine wl_call gd_none rfl ci_19 (args1 (lk rfl)) (fun hG w1 hw => toUsageRecord_c r w1) ?_
  refine wl_nil (px_qn (fun _ h => h.dropN 1 rfl) ?_)
  refine wa_only 4 (by kernel_rfl) rfl ?_
  refine wl_callx rfl ci_42 (args2 (lk rfl) (lk rfl)) (fun w1 hw => App_c rs _ _ _ _ r w1 (Sl.own hw (.head _)) (by omega)) (fun _ => rfl) ?_
  rintro ⟨gb84, gc84, gs84⟩ ⟨hgl84, hgc84⟩
  refine wl_nil (px_qn (fun _ h => h.dropN 2 rfl) ?_)
  refine wa_take 5 rfl (by kernel_rfl) (by kernel_rfl) (by kernel_rfl) (fun _ h => h.dropN 2 rfl) gd_none rfl (val_move (lk rfl)) ?_
  refine wa_take 6 rfl (by kernel_rfl) (by kernel_rfl) (by kernel_rfl) (fun _ h => h.dropN 2 rfl) gd_none rfl (val_extract (lk rfl) rfl) ?_
  refine wa_take 7 rfl (by kernel_rfl) (by kernel_rfl) (by kernel_rfl) (fun _ h => h.dropN 2 rfl) gd_none rfl (val_extract (lk rfl) rfl) ?_
  refine wa_take 8 rfl (by kernel_rfl) (by kernel_rfl) (by kernel_rfl) (fun _ h => h.dropN 2 rfl) gd_none rfl (val_assign (lk rfl)) ?_
  refine wa_take 9 rfl (by kernel_rfl) (by kernel_rfl) (by kernel_rfl) (fun _ h => h.dropN 2 rfl) gd_none rfl (val_assign (lk rfl)) ?_
  refine wa_done (by kernel_rfl) ?_
  refine px_then ?_
  refine wc_seq ?_
  refine wc_seq ?_
  refine wc_region ?_
  refine wl_v rfl (val_move (lk rfl)) ?_
  refine wl_v rfl (val_move (lk rfl)) ?_
  refine wl_call gd_none rfl ci_30 (args2 (lk rfl) (lk rfl)) (fun hG w1 hw => eqUsageRecordS_c (appU rs r) (appU rs r) _ _ _ _ _ _ _ _ w1 (Sl.own hw (.head _)) (Sl.own hw (.tail _ (.tail _ (.tail _ (.tail _ (.tail _ (.head _))))))) (by omega)) ?_
  refine wl_v rfl (val_not (lk rfl)) ?_
  refine wl_v rfl (val_move (lk rfl)) ?_
  refine wl_val (gd_f rfl rfl rfl) rfl (val_move (lk rfl)) ?_
  refine wl_val (gd_f rfl rfl rfl) rfl (val_move (lk rfl)) ?_
  refine wl_val (gd_f rfl rfl rfl) rfl (val_neqB Try.underlying4 (lkg rfl) (lkg rfl)) ?_
  refine wl_v rfl (val_or (lk rfl) (lkg rfl)) ?_
  refine wl_nil ?_
  refine px_then ?_
  refine wc_cond (lk rfl) (fun hc6 => ?_) (fun hc6 => ?_)
  · refine wc_seq ?_
    refine wc_region ?_
    refine wl_v rfl (val_assign lkc) ?_
    refine wl_nil ?_
    refine px_then ?_
    refine wc_ret ?_
    refine px_then_ret ?_
    refine fin1 rfl (res_tmp rfl) (fun w1 hw => ?_)
    first | exact ⟨rfl, hw.drop rfl⟩ | (exfalso; revert hc6; simp; done) | (exfalso; revert hc6; simp; omega) | (exfalso; revert hc6; rw [eqRows_refl eqU_refl]; simp; done) | (exfalso; revert hc6; rw [eqRows_refl eqU_refl]; simp; omega) | (exfalso; have h9 := of_decide_eq_true hc6; omega)
  refine wc_skip ?_
  refine px_then ?_
  refine wc_seq ?_
  refine wc_region ?_
  refine wl_v rfl (val_assign lkc) ?_
  refine wl_nil ?_
  refine px_then ?_
  refine wc_seq ?_
  refine wc_region ?_
  refine wl_v rfl (val_move (lk rfl)) ?_
  refine wl_v rfl (val_move (lk rfl)) ?_
  refine wl_call gd_none rfl ci_40 (args2 (lk rfl) (lk rfl)) (fun hG w1 hw => heldUsageRecordS_c _ _ 0 _ _ 1 w1 (Sl.own hw (.tail _ (.tail _ (.tail _ (.head _))))) (by omega) (by decide)) ?_
  refine wl_v rfl (val_assign (lk rfl)) ?_
  refine wl_nil ?_
  refine px_then ?_
  refine wc_seq ?_
  refine wc_seq ?_
  refine wc_region ?_
  refine wl_v rfl (val_move (lk rfl)) ?_
  refine wl_v rfl (val_lss (lk rfl) lkc) ?_
  refine wl_nil ?_
  refine px_then ?_
  refine wc_cond (lk rfl) (fun hc7 => ?_) (fun hc7 => ?_)
  · refine wc_seq ?_
    refine wc_region ?_
    refine wl_v rfl (val_assign lkc) ?_
    refine wl_nil ?_
    refine px_then ?_
    refine wc_ret ?_
    refine px_then_ret ?_
    refine fin1 rfl (res_tmp rfl) (fun w1 hw => ?_)
    first | exact ⟨rfl, hw.drop rfl⟩ | (exfalso; revert hc7; simp; done) | (exfalso; revert hc7; simp; omega) | (exfalso; revert hc7; rw [eqRows_refl eqU_refl]; simp; done) | (exfalso; revert hc7; rw [eqRows_refl eqU_refl]; simp; omega) | (exfalso; have h9 := of_decide_eq_true hc7; omega)
  refine wc_skip ?_
  refine px_then ?_
  refine wc_seq ?_
  refine wc_seq ?_
  refine wc_region ?_
  refine wl_v rfl (val_move (lk rfl)) ?_
  refine wl_v rfl (val_move (lk rfl)) ?_
  refine wl_v rfl (val_neq (lk rfl) (lk rfl)) ?_
  refine wl_nil ?_
  refine px_then ?_
  refine wc_cond (lk rfl) (fun hc8 => ?_) (fun hc8 => ?_)
  · refine wc_seq ?_
    refine wc_region ?_
    refine wl_v rfl (val_assign lkc) ?_
    refine wl_nil ?_
    refine px_then ?_
    refine wc_ret ?_
    refine px_then_ret ?_
    refine fin1 rfl (res_tmp rfl) (fun w1 hw => ?_)
    first | exact ⟨rfl, hw.drop rfl⟩ | (exfalso; revert hc8; simp; done) | (exfalso; revert hc8; simp; omega) | (exfalso; revert hc8; rw [eqRows_refl eqU_refl]; simp; done) | (exfalso; revert hc8; rw [eqRows_refl eqU_refl]; simp; omega) | (exfalso; have h9 := of_decide_eq_true hc8; omega)
  refine wc_skip ?_
  refine px_then ?_
  refine wc_seq ?_
  refine wc_region ?_
  refine wl_v rfl (val_assign lkc) ?_
  refine wl_nil ?_
  refine px_then ?_
  refine wc_ret ?_
  refine fin1 rfl (res_tmp rfl) (fun w1 hw => ?_)
  first | exact ⟨rfl, hw.drop rfl⟩ | (exfalso; revert hc8; simp; done) | (exfalso; revert hc8; simp; omega) | (exfalso; revert hc8; rw [eqRows_refl eqU_refl]; simp; done) | (exfalso; revert hc8; rw [eqRows_refl eqU_refl]; simp; omega) | (exfalso; have h9 := of_decide_eq_true hc8; omega)

end Go.Proofs.Ytjcenklebamjpaa
