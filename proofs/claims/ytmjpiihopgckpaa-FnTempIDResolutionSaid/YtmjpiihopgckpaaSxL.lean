/- Location privacy and temporary identities: the laws on draws. -/
import Derived.Test.YtmjpiihopgckpaaSxW
namespace Go.Proofs.Ytmjpiihopgckpaa
open Go.RowKit


theorem findI_first {α : Type} (p : α → Bool) (d : α) : ∀ (i : Nat) (rs : List α) (k : Nat), k < rs.length → p (nth d rs k) = true → (∀ j, j < k → p (nth d rs j) = false) → findI p i rs = ((i + k : Nat) : Int)
  | i, r :: rs, 0, _, hp, _ => by
    have : p r = true := hp
    simp [findI, this]
  | i, r :: rs, k + 1, h, hp, hj => by
    have h0 : p r = false := hj 0 (by omega)
    rw [findI, if_neg (by rw [h0]; decide), findI_first p d (i + 1) rs k (by simpa using h) hp (fun j hjk => hj (j + 1) (by omega))]
    omega
  | _, [], _, h, _, _ => by simp at h
theorem findI_sat {α : Type} (p : α → Bool) (d : α) : ∀ (i : Nat) (rs : List α), 0 ≤ findI p i rs → p (nth d rs (findI p i rs - i).toNat) = true
  | _, [], h => by simp [findI] at h
  | i, r :: rs, h => by
    rw [findI] at h ⊢
    split
    · rename_i hp
      rw [show ((i : Int) - i).toNat = 0 by omega]
      exact hp
    · rename_i hp
      rw [if_neg hp] at h
      have h1 := findI_sat p d (i + 1) rs h
      have h2 := (findI_lt p (i + 1) rs h).1
      rw [show (findI p (i + 1) rs - (i : Int)).toNat = (findI p (i + 1) rs - ((i + 1 : Nat) : Int)).toNat + 1 by omega]
      exact h1
theorem reg_first {rs : List Reg} (h : okRegs rs = true) {k : Nat} (hk : k < rs.length) : findW rs (nth d0W rs k).id = (k : Int) ∧ tempW rs (nth d0W rs k).net (nth d0W rs k).tmp = (k : Int) := by
  have hp := ((okRegs_iff rs).1 h).2.2
  have hc : ∀ j, j < k → clash (nth d0W rs j) (nth d0W rs k) = false := fun j hj => by
    rw [nth_eq hk, nth_eq (show j < rs.length by omega)]
    exact (List.pairwise_iff_getElem.1 hp) j k (by omega) hk hj
  refine ⟨?_, ?_⟩
  · have := findI_first (fun s => eq2 s.id (nth d0W rs k).id) d0W 0 rs k hk (eq2_refl _) (fun j hj => by
      have := hc j hj
      rw [clash, Bool.or_eq_false_iff] at this
      exact this.1)
    rw [findW, this, Nat.zero_add]
  · have := findI_first (fun s => (s.net == (nth d0W rs k).net) && eq2 s.tmp (nth d0W rs k).tmp) d0W 0 rs k hk (by simp [eq2_refl]) (fun j hj => by
      have := hc j hj
      rw [clash, Bool.or_eq_false_iff] at this
      exact this.2)
    rw [tempW, this, Nat.zero_add]
theorem temp_chk {rs : List Reg} (h : okRegs rs = true) {k : Nat} (hk : k < rs.length) :
    ((!isW rs (nth d0W rs k).net (nth d0W rs k).tmp || (enc2 (resW rs (nth d0W rs k).net (nth d0W rs k).tmp) != enc2 (nth d0W rs k).id)) || (findW rs (resW rs (nth d0W rs k).net (nth d0W rs k).tmp) != ((k : Nat) : Int))) = false := by
  obtain ⟨h1, h2⟩ := reg_first h hk
  have hr : resW rs (nth d0W rs k).net (nth d0W rs k).tmp = (nth d0W rs k).id := by
    rw [resW, h2, if_neg (by omega)]; rfl
  rw [hr, h1, isW, h2]
  simp
theorem temp_none {rs : List Reg} (h : allT rs) : tempW rs 0 (3, 1) < 0 := by
  by_cases h0 : 0 ≤ tempW rs 0 (3, 1)
  · have hl := tempW_lt h0
    have h1 := findI_sat (fun s : Reg => (s.net == 0) && eq2 s.tmp (3, 1)) d0W 0 rs h0
    rw [show (findI (fun s : Reg => (s.net == 0) && eq2 s.tmp (3, 1)) 0 rs - ((0 : Nat) : Int)).toNat = (tempW rs 0 (3, 1)).toNat by rw [tempW]; omega] at h1
    have h2 := h (nth d0W rs (tempW rs 0 (3, 1)).toNat) (by rw [nth_eq hl.1]; exact List.getElem_mem _)
    rw [Bool.and_eq_true] at h1
    have h3 := h1.2
    rw [eq2, h2] at h3
    simp at h3
  · omega
theorem temp_end {rs : List Reg} (h : okRegs rs = true) (ha : allT rs) : ((!isW rs 0 (3, 1) && (enc2 (resW rs 0 (3, 1)) == enc2 (0, 0))) && okRegs rs) = true := by
  have h0 := temp_none ha
  rw [h, isW, resW, if_pos h0]
  simp; omega
theorem priv_chk (rs : List Reg) (a : Int) (p : Int × Int) : ((mayW rs a p != mayW rs a p) || (locW rs a p != (mayW rs a p && decide (0 ≤ findW rs p)))) = false := by
  rw [locW, Bool.and_comm]; simp
theorem loc_found {rs : List Reg} {a : Int} {p : Int × Int} {x : Bool} (h : (x && locW rs a p) = true) : 0 ≤ findW rs p := by
  rw [Bool.and_eq_true] at h
  have h2 := h.2
  rw [locW, Bool.and_eq_true] at h2
  exact of_decide_eq_true h2.1
theorem priv_end (rs : List Reg) (a : Int) (p : Int × Int) : ((!locW rs a p && (areaW rs a p == -1)) || (locW rs a p && (areaW rs a p == (nth d0W rs (findW rs p).toNat).area))) = true := by
  unfold areaW
  cases locW rs a p <;> simp

theorem law_PrivacyD (A : Option Addr) (n b o c : Nat) (w : World) (hk : Cod w A n b o) :
    Calls Try.prog 11 #[.slice A n c] w fun e w' => e = .returned (.bool true) ∧ HP w [] w' := by
  refine calls_entry [] _ Try.func11 rfl Try.ntmps11 (HP.refl w) (env1 rfl) ?_
  refine wc_seq ?_
  refine wc_region ?_
  refine wl_v rfl (val_assign lkc) ?_
  refine wl_nil ?_
  refine px_then ?_
  refine wc_seq ?_
  refine wc_seq ?_
  refine wc_region ?_
  refine wl_v rfl (val_move (lk rfl)) ?_
  refine wl_call gd_none rfl ci_34 (args1 (lk rfl)) (fun hG w1 hw => big_c _ _ _ w1) ?_
  refine wl_nil ?_
  refine px_then ?_
  refine wc_cond (lk rfl) (fun hc0 => ?_) (fun hc0 => ?_)
  · refine wc_seq ?_
    refine wc_region ?_
    refine wl_v rfl (val_assign lkc) ?_
    refine wl_nil ?_
    refine px_then ?_
    refine wc_ret ?_
    refine px_then_ret ?_
    refine fin1 rfl (res_tmp rfl) (fun w1 hw => ?_)
    exact ⟨rfl, hw.drop rfl⟩
  have hn : n ≤ 1048576 := by have := of_decide_eq_false hc0; omega
  refine wc_skip ?_
  refine px_then ?_
  refine wc_seq ?_
  refine wc_region ?_
  refine wl_v rfl (val_move (lk rfl)) ?_
  refine wl_callx rfl ci_36 (args1 (lk rfl)) (fun w1 hw => DrawMay_c _ _ _ _ _ w1 (hk.hp hw rfl)) (fun _ => rfl) ?_
  rintro ⟨⟨xs14, gr14, gc14, gs14⟩, rp14, rn14⟩ ⟨⟨hgl14, hgc14⟩, hlen14⟩
  simp only at hgl14 hgc14 hlen14
  refine wl_v rfl (val_move (lk rfl)) ?_
  refine wl_v rfl (val_extract (lk rfl) rfl) ?_
  refine wl_v rfl (val_extract (lk rfl) rfl) ?_
  refine wl_v rfl (val_extract (lk rfl) rfl) ?_
  refine wl_alloc zc_29 rfl fun b1 => ?_
  refine wl_v rfl (val_assign (lk rfl)) ?_
  refine wl_v rfl (val_assign (lk rfl)) ?_
  refine wl_storeB 0 rfl (lk rfl) (lk rfl) ag_29 rfl rfl ?_
  refine wl_nil ?_
  refine px_then ?_
  refine wc_seq ?_
  refine wc_region ?_
  refine wl_v rfl (val_move (lk rfl)) ?_
  refine wl_v rfl (val_loadB (.head _) (lk rfl) ag_29) ?_
  refine wl_call gd_none rfl ci_13 (args2 (lk rfl) (lk rfl)) (fun hG w1 hw => sFindW_c xs14 _ _ _ _ rp14 w1 (Sl.own hw (.tail _ (.head _))) (by omega)) ?_
  refine wl_v rfl (val_assign (lk rfl)) ?_
  refine wl_nil ?_
  refine px_then ?_
  refine wc_seq ?_
  refine wc_region ?_
  refine wl_v rfl (val_move (lk rfl)) ?_
  refine wl_v rfl (val_field fo_29_0 (lk rfl)) ?_
  refine wl_v rfl (val_load1 t1_3 (lk rfl) (cell_own (.head _) fun _ => rfl)) ?_
  refine wl_v rfl (val_eql (lk rfl) (lk rfl)) ?_
  refine wl_v rfl (val_move (lk rfl)) ?_
  refine wl_val (gd_f rfl rfl rfl) rfl (val_move (lk rfl)) ?_
  refine wl_val (gd_f rfl rfl rfl) rfl (val_geq (lkg rfl) lkc) ?_
  refine wl_val (gd_f rfl rfl rfl) rfl (val_move (lkg rfl)) ?_
  refine wl_val (gd_gt rfl rfl rfl) rfl (val_move (lk rfl)) ?_
  refine wl_val (gd_gt rfl rfl rfl) rfl (val_move (lk rfl)) ?_
  refine wl_val (gd_gt rfl rfl rfl) rfl (val_indexI es_27 (lkg rfl) (lkg rfl) (fun _ => rfl) (fun hG => ⟨(by simp at hG; omega), (findW_lt (by simp at hG; omega)).2⟩)) ?_
  refine wl_val (gd_gt rfl rfl rfl) rfl (val_field fo_55_1 (lkg rfl)) ?_
  refine wl_val (gd_gt rfl rfl rfl) rfl (val_load1 t1_3 (lkg rfl) (own_fld (.tail _ (.head _)) encW_len d0W (i := (findW xs14 rp14).toNat) (f := 2) (fun hG => (findW_lt (by simp at hG; omega)).1) rfl)) ?_
  refine wl_val (gd_gt rfl rfl rfl) rfl (val_move (lk rfl)) ?_
  refine wl_val (gd_gt rfl rfl rfl) rfl (val_eql (lkg rfl) (lkg rfl)) ?_
  refine wl_val (gd_f rfl rfl rfl) rfl (val_and (lkg rfl) (lkg rfl)) ?_
  refine wl_v rfl (val_or (lk rfl) (lkg rfl)) ?_
  refine wl_v rfl (val_assign (lk rfl)) ?_
  refine wl_nil ?_
  refine px_then ?_
  refine wc_seq ?_
  refine wc_region ?_
  refine wl_v rfl (val_move (lk rfl)) ?_
  refine wl_v rfl (val_move (lk rfl)) ?_
  refine wl_v rfl (val_loadB (.head _) (lk rfl) ag_29) ?_
  refine wl_call gd_none rfl ci_27 (args3 (lk rfl) (lk rfl) (lk rfl)) (fun hG w1 hw => Loc_c xs14 _ _ _ _ rn14 rp14 w1 (Sl.own hw (.tail _ (.head _))) (by omega)) ?_
  refine wl_v rfl (val_move (lk rfl)) ?_
  refine wl_v rfl (val_extract (lk rfl) rfl) ?_
  refine wl_v rfl (val_extract (lk rfl) rfl) ?_
  refine wl_v rfl (val_assign (lk rfl)) ?_
  refine wl_v rfl (val_assign (lk rfl)) ?_
  refine wl_nil ?_
  refine px_then ?_
  refine wc_seq ?_
  refine wc_seq ?_
  refine wc_region ?_
  refine wl_v rfl (val_move (lk rfl)) ?_
  refine wl_v rfl (val_move (lk rfl)) ?_
  refine wl_v rfl (val_loadB (.head _) (lk rfl) ag_29) ?_
  refine wl_call gd_none rfl ci_25 (args3 (lk rfl) (lk rfl) (lk rfl)) (fun hG w1 hw => May_c xs14 _ _ _ _ rn14 rp14 w1 (Sl.own hw (.tail _ (.head _))) (by omega)) ?_
  refine wl_v rfl (val_move (lk rfl)) ?_
  refine wl_v rfl (val_neqB Try.underlying4 (lk rfl) (lk rfl)) ?_
  refine wl_v rfl (val_move (lk rfl)) ?_
  refine wl_val (gd_f rfl rfl rfl) rfl (val_move (lk rfl)) ?_
  refine wl_val (gd_f rfl rfl rfl) rfl (val_move (lk rfl)) ?_
  refine wl_val (gd_f rfl rfl rfl) rfl (val_move (lkg rfl)) ?_
  refine wl_val (gd_gt rfl rfl rfl) rfl (val_move (lk rfl)) ?_
  refine wl_val (gd_gt rfl rfl rfl) rfl (val_geq (lkg rfl) lkc) ?_
  refine wl_val (gd_f rfl rfl rfl) rfl (val_and (lkg rfl) (lkg rfl)) ?_
  refine wl_val (gd_f rfl rfl rfl) rfl (val_neqB Try.underlying4 (lkg rfl) (lkg rfl)) ?_
  refine wl_v rfl (val_or (lk rfl) (lkg rfl)) ?_
  refine wl_nil ?_
  refine px_then ?_
  refine wc_cond (lk rfl) (fun hc1 => ?_) (fun hc1 => ?_)
  · (exfalso; have h9 : ((mayW xs14 rn14 rp14 != mayW xs14 rn14 rp14) || (locW xs14 rn14 rp14 != (mayW xs14 rn14 rp14 && decide (0 ≤ findW xs14 rp14)))) = true := hc1; rw [priv_chk] at h9; exact Bool.noConfusion h9)
  refine wc_skip ?_
  refine px_then ?_
  refine wc_seq ?_
  refine wc_region ?_
  refine wl_v rfl (val_move (lk rfl)) ?_
  refine wl_v rfl (val_not (lk rfl)) ?_
  refine wl_v rfl (val_move (lk rfl)) ?_
  refine wl_val (gd_t rfl rfl rfl) rfl (val_move (lk rfl)) ?_
  refine wl_val (gd_t rfl rfl rfl) rfl (val_eql (lkg rfl) lkc) ?_
  refine wl_v rfl (val_and (lk rfl) (lkg rfl)) ?_
  refine wl_v rfl (val_move (lk rfl)) ?_
  refine wl_val (gd_f rfl rfl rfl) rfl (val_move (lk rfl)) ?_
  refine wl_val (gd_f rfl rfl rfl) rfl (val_move (lkg rfl)) ?_
  refine wl_val (gd_gt rfl rfl rfl) rfl (val_move (lk rfl)) ?_
  refine wl_val (gd_gt rfl rfl rfl) rfl (val_move (lk rfl)) ?_
  refine wl_val (gd_gt rfl rfl rfl) rfl (val_move (lk rfl)) ?_
  refine wl_val (gd_gt rfl rfl rfl) rfl (val_indexI es_27 (lkg rfl) (lkg rfl) (fun _ => rfl) (fun hG => ⟨(loc_found hG), (findW_lt (loc_found hG)).2⟩)) ?_
  refine wl_val (gd_gt rfl rfl rfl) rfl (val_field fo_55_2 (lkg rfl)) ?_
  refine wl_val (gd_gt rfl rfl rfl) rfl (val_load1 t1_3 (lkg rfl) (own_fld (.tail _ (.head _)) encW_len d0W (i := (findW xs14 rp14).toNat) (f := 3) (fun hG => (findW_lt (loc_found hG)).1) rfl)) ?_
  refine wl_val (gd_gt rfl rfl rfl) rfl (val_eql (lkg rfl) (lkg rfl)) ?_
  refine wl_val (gd_f rfl rfl rfl) rfl (val_and (lkg rfl) (lkg rfl)) ?_
  refine wl_v rfl (val_or (lk rfl) (lkg rfl)) ?_
  refine wl_v rfl (val_assign (lk rfl)) ?_
  refine wl_nil ?_
  refine px_then ?_
  refine wc_ret ?_
  refine fin1 rfl (res_tmp rfl) (fun w1 hw => ?_)
  exact ⟨congrArg (fun x => Ending.returned (.bool x)) (priv_end xs14 rn14 rp14), hw.drop rfl⟩

theorem law_TempD (A : Option Addr) (n b o c : Nat) (w : World) (hk : Cod w A n b o) :
    Calls Try.prog 10 #[.slice A n c] w fun e w' => e = .returned (.bool true) ∧ HP w [] w' := by
  refine calls_entry [] _ Try.func10 rfl Try.ntmps10 (HP.refl w) (env1 rfl) ?_
  refine wc_seq ?_
  refine wc_region ?_
  refine wl_v rfl (val_assign lkc) ?_
  refine wl_nil ?_
  refine px_then ?_
  refine wc_seq ?_
  refine wc_seq ?_
  refine wc_region ?_
  refine wl_v rfl (val_move (lk rfl)) ?_
  refine wl_call gd_none rfl ci_34 (args1 (lk rfl)) (fun hG w1 hw => big_c _ _ _ w1) ?_
  refine wl_nil ?_
  refine px_then ?_
  refine wc_cond (lk rfl) (fun hc0 => ?_) (fun hc0 => ?_)
  · refine wc_seq ?_
    refine wc_region ?_
    refine wl_v rfl (val_assign lkc) ?_
    refine wl_nil ?_
    refine px_then ?_
    refine wc_ret ?_
    refine px_then_ret ?_
    refine fin1 rfl (res_tmp rfl) (fun w1 hw => ?_)
    exact ⟨rfl, hw.drop rfl⟩
  have hn : n ≤ 1048576 := by have := of_decide_eq_false hc0; omega
  refine wc_skip ?_
  refine px_then ?_
  refine wc_seq ?_
  refine wc_region ?_
  refine wl_v rfl (val_move (lk rfl)) ?_
  refine wl_callx rfl ci_35 (args1 (lk rfl)) (fun w1 hw => DrawReg_c _ _ _ _ _ w1 (hk.hp hw rfl)) (fun _ => rfl) ?_
  rintro ⟨xs12, gr12, gc12, gs12⟩ ⟨⟨hgl12, hgc12⟩, hok12, hal12⟩
  simp only at hgl12 hgc12 hok12 hal12
  have hlen12 := okRegs_len hok12
  refine wl_v rfl (val_assign (lk rfl)) ?_
  refine wl_nil ?_
  refine px_then ?_
  refine wc_seq ?_
  refine wc_seq ?_
  refine wc_region ?_
  refine wl_v rfl (val_assign lkc) ?_
  refine wl_nil ?_
  refine px_then ?_
  refine wc_block ?_
  refine wc_trim (l' := [(2, _), (3, _), (4, _)]) ⟨rfl, rfl, rfl, trivial⟩ ?_
  refine wc_loop0 (X := Nat) (fun k => k ≤ xs12.length) (fun k => [(4, (true, .int .i64 (k : Nat)))]) (fun k => xs12.length - k) 0 (Nat.zero_le _) ⟨rfl, rfl, rfl, rfl, trivial⟩ ?_
  intro k hk0
  refine wc_seq ?_
  refine wc_seq ?_
  refine wc_region ?_
  refine wl_v rfl (val_move (lk rfl)) ?_
  refine wl_v rfl (val_move (lk rfl)) ?_
  refine wl_v rfl (val_len es_27 (lk rfl)) ?_
  refine wl_v rfl (val_lss (lk rfl) (lk rfl)) ?_
  refine wl_nil ?_
  refine px_then ?_
  refine wc_cond (lk rfl) (fun hc1 => ?_) (fun hc1 => ?_)
  · have hlt : k < xs12.length := by have h9 : ((k : Nat) : Int) < ((xs12.length : Nat) : Int) := of_decide_eq_true hc1; omega
    refine wc_skip ?_
    refine px_then ?_
    refine wc_seq ?_
    refine wc_block ?_
    refine wc_seq ?_
    refine wc_region_a0 18 mo_ rfl ?_
    refine wa_take 0 rfl (by kernel_rfl) (by kernel_rfl) (by kernel_rfl) (by kernel_rfl) (fun _ h => h.dropN 0 rfl) gd_none rfl (val_move (lk rfl)) ?_
    refine wa_take 1 rfl (by kernel_rfl) (by kernel_rfl) (by kernel_rfl) (by kernel_rfl) (fun _ h => h.dropN 0 rfl) gd_none rfl (val_move (lk rfl)) ?_
    refine wa_take 2 rfl (by kernel_rfl) (by kernel_rfl) (by kernel_rfl) (by kernel_rfl) (fun _ h => h.dropN 0 rfl) gd_none rfl (val_move (lk rfl)) ?_
    refine wa_take 3 rfl (by kernel_rfl) (by kernel_rfl) (by kernel_rfl) (by kernel_rfl) (fun _ h => h.dropN 0 rfl) gd_none rfl (val_index es_27 (lk rfl) (lk rfl) (fun hG => rfl) (fun hG => hlt)) ?_
    refine wa_take 4 rfl (by kernel_rfl) (by kernel_rfl) (by kernel_rfl) (by kernel_rfl) (fun _ h => h.dropN 0 rfl) gd_none rfl (val_field fo_55_1 (lk rfl)) ?_
    refine wa_take 5 rfl (by kernel_rfl) (by kernel_rfl) (by kernel_rfl) (by kernel_rfl) (fun _ h => h.dropN 0 rfl) gd_none rfl (val_load1 t1_3 (lk rfl) (own_fld (.head _) encW_len d0W (i := k) (f := 2) (fun _ => hlt) rfl)) ?_
    refine wa_take 6 rfl (by kernel_rfl) (by kernel_rfl) (by kernel_rfl) (by kernel_rfl) (fun _ h => h.dropN 0 rfl) gd_none rfl (val_move (lk rfl)) ?_
    refine wa_take 7 rfl (by kernel_rfl) (by kernel_rfl) (by kernel_rfl) (by kernel_rfl) (fun _ h => h.dropN 0 rfl) gd_none rfl (val_move (lk rfl)) ?_
    refine wa_take 8 rfl (by kernel_rfl) (by kernel_rfl) (by kernel_rfl) (by kernel_rfl) (fun _ h => h.dropN 0 rfl) gd_none rfl (val_index es_27 (lk rfl) (lk rfl) (fun hG => rfl) (fun hG => hlt)) ?_
    refine wa_take 9 rfl (by kernel_rfl) (by kernel_rfl) (by kernel_rfl) (by kernel_rfl) (fun _ h => h.dropN 0 rfl) gd_none rfl (val_field fo_55_3 (lk rfl)) ?_
    refine wa_take 10 rfl (by kernel_rfl) (by kernel_rfl) (by kernel_rfl) (by kernel_rfl) (fun _ h => h.dropN 0 rfl) gd_none rfl (val_loadN (vs := ((recV encW (nth d0W xs12 k)).drop 4).take 2) ag_37 (lk rfl) rfl (own_recP (.head _) encW_len d0W (fun _ => hlt))) ?_
    refine wa_chn1 [(false, 11, 31), (true, 12, 19), (true, 13, 32), (true, 14, 33)] 15 5 5 [11, 12, 13, 14, 15] (fun _ h => h.dropN 0 rfl) (by kernel_rfl) (by kernel_rfl) rfl rfl (fun _ _ => ops_alloc rfl zc_29 rfl) ?_
    refine ch_o (ops_call rfl rfl ci_20 (args3 (lk rfl) (lk rfl) (lk rfl)) (fun w1 hw => Res_c xs12 _ _ _ _ (nth d0W xs12 k).net (nth d0W xs12 k).tmp w1 (Sl.own hw (.head _)) (by omega))) ?_
    rintro _ _ ⟨rfl, rfl⟩
    refine ch_q rfl gd_none rfl (val_move (lk rfl)) ?_
    refine ch_q rfl gd_none rfl (val_extract (lk rfl) rfl) ?_
    refine ch_q rfl gd_none rfl (val_extract (lk rfl) rfl) ?_
    refine ch_nil ?_
    rintro _ _ ⟨b1, rfl, rfl⟩
    refine wa_only 16 (by kernel_rfl) rfl ?_
    refine wl_storeB 0 rfl (lk rfl) (lk rfl) ag_29 rfl rfl ?_
    refine wl_nil (px_qn (fun _ h => h.dropN 1 rfl) ?_)
    refine wa_take 17 rfl (by kernel_rfl) (by kernel_rfl) (by kernel_rfl) (by kernel_rfl) (fun _ h => h.dropN 1 rfl) gd_none rfl (val_assign (lk rfl)) ?_
    refine wa_done (by kernel_rfl) ?_
    refine px_then ?_
    refine wc_seq ?_
    refine wc_region_q mo_ (by kernel_rfl) ?_
    refine wq_v rfl (val_move (lk rfl)) ?_
    refine wq_v rfl (val_not (lk rfl)) ?_
    refine wq_v rfl (val_move (lk rfl)) ?_
    refine wq_val (gd_f rfl rfl rfl) rfl (val_loadB (.head _) (lk rfl) ag_29) ?_
    refine wq_val (gd_f rfl rfl rfl) rfl (val_move (lk rfl)) ?_
    refine wq_val (gd_f rfl rfl rfl) rfl (val_move (lk rfl)) ?_
    refine wq_val (gd_f rfl rfl rfl) rfl (val_index es_27 (lkg rfl) (lkg rfl) (fun hG => rfl) (fun hG => hlt)) ?_
    refine wq_val (gd_f rfl rfl rfl) rfl (val_field fo_55_0 (lkg rfl)) ?_
    refine wq_val (gd_f rfl rfl rfl) rfl (val_loadN (vs := ((recV encW (nth d0W xs12 k)).drop 0).take 2) ag_29 (lkg rfl) rfl (own_recP (.tail _ (.head _)) encW_len d0W (fun _ => hlt))) ?_
    refine wq_val (gd_f rfl rfl rfl) rfl (val_neqK (ns := enc2 (resW xs12 (nth d0W xs12 k).net (nth d0W xs12 k).tmp)) (ms := enc2 (nth d0W xs12 k).id) eqk_29 ist_29 egt_29 (lkg rfl) (lkg rfl) rfl rfl) ?_
    refine wq_v rfl (val_or (lk rfl) (lkg rfl)) ?_
    refine wq_v rfl (val_move (lk rfl)) ?_
    refine wq_val (gd_f rfl rfl rfl) rfl (val_move (lk rfl)) ?_
    refine wq_val (gd_f rfl rfl rfl) rfl (val_loadB (.head _) (lk rfl) ag_29) ?_
    refine wq_call (gd_f rfl rfl rfl) rfl ci_16 (args2 (lkg rfl) (lkg rfl)) (fun hG w1 hw => FindW_c xs12 _ _ _ _ (resW xs12 (nth d0W xs12 k).net (nth d0W xs12 k).tmp) w1 (Sl.own hw (.tail _ (.head _))) (by omega)) ?_
    refine wq_val (gd_f rfl rfl rfl) rfl (val_move (lk rfl)) ?_
    refine wq_val (gd_f rfl rfl rfl) rfl (val_neq (lkg rfl) (lkg rfl)) ?_
    refine wq_v rfl (val_or (lk rfl) (lkg rfl)) ?_
    refine wq_nil ?_
    refine px_then ?_
    refine wc_cond (lk rfl) (fun hc2 => ?_) (fun hc2 => ?_)
    · (exfalso; have h9 := temp_chk hok12 hlt; have h8 := hc2.symm.trans h9; exact Bool.noConfusion h8)
    refine wc_skip ?_
    refine px_block ?_
    refine px_then ?_
    refine wc_region ?_
    refine wl_v rfl (val_move (lk rfl)) ?_
    refine wl_v rfl (val_inc (lk rfl) (by omega)) ?_
    refine wl_v rfl (val_assign (lk rfl)) ?_
    refine wl_nil ?_
    refine px_round0 (k + 1) (by omega) (by omega) (⟨rfl, rfl, rfl, rfl, trivial⟩) (fun _ h => h.dropN 1 rfl)
  refine wc_exit ?_
  refine px_then_exit ?_
  refine px_then_exit ?_
  refine px_block_exit ?_
  refine px_then ?_
  refine wc_seq ?_
  refine wc_region ?_
  refine wl_v rfl (val_move (lk rfl)) ?_
  refine wl_v rfl (val_buildP (partsC lkc (partsC lkc parts0)) (bl_37_0_1 _ _)) ?_
  refine wl_call gd_none rfl ci_20 (args3 (lk rfl) lkc (lk rfl)) (fun hG w1 hw => Res_c xs12 _ _ _ _ 0 (3, 1) w1 (Sl.own hw (.head _)) (by omega)) ?_
  refine wl_v rfl (val_move (lk rfl)) ?_
  refine wl_v rfl (val_extract (lk rfl) rfl) ?_
  refine wl_v rfl (val_extract (lk rfl) rfl) ?_
  refine wl_alloc zc_29 rfl fun b2 => ?_
  refine wl_storeB 0 rfl (lk rfl) (lk rfl) ag_29 rfl rfl ?_
  refine wl_v rfl (val_assign (lk rfl)) ?_
  refine wl_nil ?_
  refine px_then ?_
  refine wc_seq ?_
  refine wc_region ?_
  refine wl_v rfl (val_move (lk rfl)) ?_
  refine wl_v rfl (val_not (lk rfl)) ?_
  refine wl_v rfl (val_move (lk rfl)) ?_
  refine wl_val (gd_t rfl rfl rfl) rfl (val_loadB (.head _) (lk rfl) ag_29) ?_
  refine wl_val (gd_t rfl rfl rfl) rfl (val_buildP parts0 bl_29_) ?_
  refine wl_val (gd_t rfl rfl rfl) rfl (val_eqlK (ns := enc2 (resW xs12 0 (3, 1))) (ms := enc2 (0, 0)) eqk_29 ist_29 egt_29 (lkg rfl) (lkg rfl) rfl rfl) ?_
  refine wl_v rfl (val_and (lk rfl) (lkg rfl)) ?_
  refine wl_v rfl (val_move (lk rfl)) ?_
  refine wl_val (gd_t rfl rfl rfl) rfl (val_move (lk rfl)) ?_
  refine wl_call (gd_t rfl rfl rfl) rfl ci_29 (args1 (lkg rfl)) (fun hG w1 hw => OkRegs_c xs12 _ _ _ _ w1 (Sl.own hw (.tail _ (.head _))) (by omega) (cap_le encW_len (by decide) hgl12)) ?_
  refine wl_v rfl (val_and (lk rfl) (lkg rfl)) ?_
  refine wl_v rfl (val_assign (lk rfl)) ?_
  refine wl_nil ?_
  refine px_then ?_
  refine wc_ret ?_
  refine fin1 rfl (res_tmp rfl) (fun w1 hw => ?_)
  exact ⟨congrArg (fun x => Ending.returned (.bool x)) (temp_end hok12 hal12), hw.drop rfl⟩

end Go.Proofs.Ytmjpiihopgckpaa
