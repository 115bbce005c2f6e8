/- Missing records: what the law on draws asks, and its walk. -/
import Derived.Test.YtcdinidpclmmeaaSxLq
namespace Go.Proofs.Ytcdinidpclmmeaa
open Go.RowKit


theorem nth_appA {α : Type} {d : α} {xs : List α} {v : α} {i : Nat} (h : i < xs.length) : nth d (xs ++ [v]) i = nth d xs i := by
  rw [nth_eq (by simp; omega), nth_eq h, List.getElem_append_left h]
theorem nth_lastA {α : Type} {d : α} (xs : List α) (v : α) : nth d (xs ++ [v]) xs.length = v := by
  rw [nth_eq (by simp)]; simp
theorem missN_at (rs : List Rec) (net sid : Int) : ∀ j i, i < (missN rs net sid j).length → 1 ≤ nth d0I (missN rs net sid j) i ∧ nth d0I (missN rs net sid j) i ≤ j ∧ findU rs ⟨net, sid, nth d0I (missN rs net sid j) i, 0⟩ < 0
  | 0, i, h => by simp [missN] at h
  | j + 1, i, h => by
    rw [missN] at h ⊢
    split
    · rename_i hd
      rw [if_pos hd, List.length_append, List.length_cons, List.length_nil] at h
      by_cases e : i < (missN rs net sid j).length
      · rw [nth_appA e]
        obtain ⟨h1, h2, h3⟩ := missN_at rs net sid j i e
        exact ⟨h1, by omega, h3⟩
      · have e2 : i = (missN rs net sid j).length := by omega
        subst e2
        rw [nth_lastA]
        exact ⟨by omega, by omega, hd⟩
    · rename_i hd
      rw [if_neg hd] at h
      obtain ⟨h1, h2, h3⟩ := missN_at rs net sid j i h
      exact ⟨h1, by omega, h3⟩
theorem missN_up (rs : List Rec) (net sid : Int) : ∀ j i, i + 1 < (missN rs net sid j).length → nth d0I (missN rs net sid j) i < nth d0I (missN rs net sid j) (i + 1)
  | 0, i, h => by simp [missN] at h
  | j + 1, i, h => by
    rw [missN] at h ⊢
    split
    · rename_i hd
      rw [if_pos hd, List.length_append, List.length_cons, List.length_nil] at h
      by_cases e : i + 1 < (missN rs net sid j).length
      · rw [nth_appA e, nth_appA (by omega)]
        exact missN_up rs net sid j i e
      · have e2 : i + 1 = (missN rs net sid j).length := by omega
        rw [nth_appA (by omega), e2, nth_lastA]
        have := (missN_at rs net sid j i (by omega)).2.1
        omega
    · rename_i hd
      rw [if_neg hd] at h
      exact missN_up rs net sid j i h
theorem missR_eq (rs : List Rec) (net sid : Int) : ∀ f j, ∃ J, missR rs net sid f j = missN rs net sid J
  | 0, j => ⟨j, rfl⟩
  | f + 1, j => by
    unfold missR
    split
    · exact missR_eq rs net sid f (j + 1)
    · exact ⟨j, rfl⟩
theorem findI_m1 {α : Type} (p : α → Bool) : ∀ (i : Nat) (rs : List α), findI p i rs < 0 → findI p i rs = -1
  | i, [], _ => rfl
  | i, r :: rs, h => by
    rw [findI] at h ⊢
    split
    · rename_i hp; rw [if_pos hp] at h; omega
    · rename_i hp; rw [if_neg hp] at h; exact findI_m1 p (i + 1) rs h
theorem findU_byt (rs : List Rec) (a b c d e : Int) : findU rs ⟨a, b, c, d⟩ = findU rs ⟨a, b, c, e⟩ := findU_key (by simp [sameU]) rs
theorem missU_at {rs : List Rec} {net sid : Int} {k : Nat} (h : k < (missU rs net sid).length) : 1 ≤ nth d0I (missU rs net sid) k ∧ findU rs ⟨net, sid, nth d0I (missU rs net sid) k, 1⟩ < 0 ∧ (0 < k → nth d0I (missU rs net sid) (k - 1) < nth d0I (missU rs net sid) k) := by
  obtain ⟨J, hJ⟩ := missR_eq rs net sid 100000 0
  have hM : missU rs net sid = missN rs net sid J := hJ
  rw [hM] at h ⊢
  obtain ⟨h1, _, h3⟩ := missN_at rs net sid J k h
  refine ⟨h1, by rw [findU_byt rs _ _ _ 1 0]; exact h3, fun h0 => ?_⟩
  have := missN_up rs net sid J (k - 1) (by omega)
  rwa [show k - 1 + 1 = k by omega] at this
theorem miss_chk {rs : List Rec} {net sid : Int} {k : Nat} (h : k < (missU rs net sid).length) :
    ((decide (nth d0I (missU rs net sid) k < 1) || (decide ((0 : Int) < ((k : Nat) : Int)) && decide (nth d0I (missU rs net sid) k ≤ nth d0I (missU rs net sid) (k - 1)))) || (findU rs ⟨net, sid, nth d0I (missU rs net sid) k, 1⟩ != -1)) = false := by
  obtain ⟨h1, h2, h3⟩ := missU_at h
  have h4 : findU rs ⟨net, sid, nth d0I (missU rs net sid) k, 1⟩ = -1 := findI_m1 _ 0 rs h2
  rw [h4]
  have e1 : decide (nth d0I (missU rs net sid) k < 1) = false := by simp; omega
  rw [e1]
  by_cases h0 : 0 < k
  · have := h3 h0
    have e2 : decide (nth d0I (missU rs net sid) k ≤ nth d0I (missU rs net sid) (k - 1)) = false := by simp; omega
    rw [e2]; simp
  · have e2 : decide ((0 : Int) < ((k : Nat) : Int)) = false := by simp; omega
    rw [e2]; simp
theorem miss_fnd {rs : List Rec} {r : Rec} (h : okAll (rs ++ [r]) = true) : (findU (appU rs r) r != ((rs.length : Nat) : Int)) = false := by
  have h3 := (okAll_app_true h).2.2
  rw [appU, if_pos h, findU_app, if_neg (by omega), sameU_refl]
  simp
def hasI (xs : List Int) (n : Int) : Bool := decide (0 ≤ findI (fun x => x == n) 0 xs)
theorem miss_con {rs : List Rec} {net sid v : Int} (h : okAll (rs ++ [⟨net, sid, v, 1⟩]) = true) : hasI (missU (appU rs ⟨net, sid, v, 1⟩) net sid) v = false := by
  rw [hasI, decide_eq_false_iff_not]
  intro h0
  have h1 := findI_lt (fun x => x == v) 0 _ h0
  have h2 := findI_sat (fun x => x == v) d0I 0 _ h0
  generalize hk : findI (fun x => x == v) 0 (missU (appU rs ⟨net, sid, v, 1⟩) net sid) = z at *
  have h3 : nth d0I (missU (appU rs ⟨net, sid, v, 1⟩) net sid) (z - ((0 : Nat) : Int)).toNat = v := by simpa using h2
  obtain ⟨_, h4, _⟩ := missU_at (rs := appU rs ⟨net, sid, v, 1⟩) (net := net) (sid := sid) (k := (z - ((0 : Nat) : Int)).toNat) (by omega)
  rw [h3] at h4
  have h5 := miss_fnd h
  simp at h5
  omega

theorem contains_c (xs : List Int) (A : Option Addr) (b o c : Nat) (v : Int) (w : World) (hs : Sl w A b o (flat encI xs)) (hl : xs.length ≤ 2097152) :
    Calls Try.prog 29 #[.slice A xs.length c, .int .i64 v] w fun e w' => e = .returned (.bool (hasI xs v)) ∧ HP w [] w' := by
  refine calls_entry [] _ Try.func29 rfl Try.ntmps29 (HP.refl w) (env2 rfl) ?_
  refine wc_seq ?_
  refine wc_region ?_
  refine wl_v rfl (val_assign lkc) ?_
  refine wl_nil ?_
  refine px_then ?_
  refine wc_seq ?_
  refine wc_seq ?_
  refine wc_region ?_
  refine wl_v rfl (val_assign lkc) ?_
  refine wl_nil ?_
  refine px_then ?_
  refine wc_block ?_
  refine wc_trim (l' := [(0, _), (1, _), (4, _), (5, _)]) ⟨rfl, rfl, rfl, rfl, trivial⟩ ?_
  refine wc_loop0 (X := Nat) (fun k => k ≤ xs.length ∧ findI (fun x => x == v) k (xs.drop k) = findI (fun x => x == v) 0 xs) (fun k => [(5, (true, .int .i64 (k : Nat)))]) (fun k => xs.length - k) 0 (⟨Nat.zero_le _, rfl⟩) ⟨rfl, rfl, rfl, rfl, rfl, trivial⟩ ?_
  rintro k ⟨hk, ht⟩
  refine wc_seq ?_
  refine wc_seq ?_
  refine wc_region ?_
  refine wl_v rfl (val_move (lk rfl)) ?_
  refine wl_v rfl (val_move (lk rfl)) ?_
  refine wl_v rfl (val_len es_44 (lk rfl)) ?_
  refine wl_v rfl (val_lss (lk rfl) (lk rfl)) ?_
  refine wl_nil ?_
  refine px_then ?_
  refine wc_cond (lk rfl) (fun hc0 => ?_) (fun hc0 => ?_)
  · have hlt : k < xs.length := by have := of_decide_eq_true hc0; omega
    refine wc_skip ?_
    refine px_then ?_
    refine wc_seq ?_
    refine wc_block ?_
    refine wc_seq ?_
    refine wc_region ?_
    refine wl_v rfl (val_move (lk rfl)) ?_
    refine wl_v rfl (val_move (lk rfl)) ?_
    refine wl_v rfl (val_index es_44 (lk rfl) (lk rfl) (fun hG => hs.hd encI_len (by decide) (i := k) (by first | omega | (have h9 := of_decide_eq_true hG; omega) | (simp at hG; omega))) (fun hG => by first | omega | (have h9 := of_decide_eq_true hG; omega) | (simp at hG; omega))) ?_
    refine wl_v rfl (val_load1 t1_3 (lk rfl) (cell_old rfl fun hG => hs.fld encI_len d0I (i := k) (f := 0) (by first | omega | (have h9 := of_decide_eq_true hG; omega) | (simp at hG; omega)) (by decide) rfl)) ?_
    refine wl_v rfl (val_move (lk rfl)) ?_
    refine wl_v rfl (val_eql (lk rfl) (lk rfl)) ?_
    refine wl_nil ?_
    refine px_then ?_
    refine wc_cond (lk rfl) (fun hc1 => ?_) (fun hc1 => ?_)
    · refine wc_seq ?_
      refine wc_region ?_
      refine wl_v rfl (val_assign lkc) ?_
      refine wl_nil ?_
      refine px_then ?_
      refine wc_ret ?_
      refine px_block_ret ?_
      refine px_then_ret ?_
      refine px_then_ret ?_
      refine px_block_ret ?_
      refine px_then_ret ?_
      refine fin1 rfl (res_tmp rfl) (fun w1 hw => ?_)
      exact ⟨by rw [hasI, ← ht, drop_nth (d := d0I) hlt, findI, if_pos (by simpa using hc1)]; (simp <;> omega), hw.drop rfl⟩
    refine wc_skip ?_
    refine px_block ?_
    refine px_then ?_
    refine wc_region ?_
    refine wl_v rfl (val_move (lk rfl)) ?_
    refine wl_v rfl (val_inc (lk rfl) (by omega)) ?_
    refine wl_v rfl (val_assign (lk rfl)) ?_
    refine wl_nil ?_
    refine px_round0 (k + 1) (⟨by omega, by rw [← ht, drop_nth (d := d0I) hlt, findI, if_neg (by simpa using hc1)]⟩) (by omega) (⟨rfl, rfl, rfl, rfl, rfl, trivial⟩) (fun _ h => h.dropN 0 rfl)
  have hge : k = xs.length := by have := of_decide_eq_false hc0; omega
  subst hge
  refine wc_exit ?_
  refine px_then_exit ?_
  refine px_then_exit ?_
  refine px_block_exit ?_
  refine px_then ?_
  refine wc_seq ?_
  refine wc_region ?_
  refine wl_v rfl (val_assign lkc) ?_
  refine wl_nil ?_
  refine px_then ?_
  refine wc_ret ?_
  refine fin1 rfl (res_tmp rfl) (fun w1 hw => ?_)
  exact ⟨by rw [hasI, ← ht]; simp [findI], hw.drop rfl⟩

theorem law_MissingD (A : Option Addr) (n b o c : Nat) (w : World) (hk : Cod w A n b o) :
    Calls Try.prog 6 #[.slice A n c] w fun e w' => e = .returned (.bool true) ∧ HP w [] w' := by
  refine calls_entry [] _ Try.func6 rfl Try.ntmps6 (HP.refl w) (env1 rfl) ?_
  refine wc_seq ?_
  refine wc_region ?_
  refine wl_v rfl (val_assign lkc) ?_
  refine wl_nil ?_
  refine px_then ?_
  refine wc_seq ?_
  refine wc_seq ?_
  refine wc_region ?_
  refine wl_v rfl (val_move (lk rfl)) ?_
  refine wl_call gd_none rfl ci_9 (args1 (lk rfl)) (fun hG w1 hw => big_c _ _ _ w1) ?_
  refine wl_nil ?_
  refine px_then ?_
  refine wc_cond (lk rfl) (fun hc0 => ?_) (fun hc0 => ?_)
  · refine wc_seq ?_
    refine wc_region ?_
    refine wl_v rfl (val_assign lkc) ?_
    refine wl_nil ?_
    refine px_then ?_
    refine wc_ret ?_
    refine px_then_ret ?_
    refine fin1 rfl (res_tmp rfl) (fun w1 hw => ?_)
    exact ⟨rfl, hw.drop rfl⟩
  have hn : n ≤ 1048576 := by have := of_decide_eq_false hc0; omega
  refine wc_skip ?_
  refine px_then ?_
  refine wc_seq ?_
  refine wc_region ?_
  refine wl_v rfl (val_move (lk rfl)) ?_
  refine wl_callx rfl ci_26 (args1 (lk rfl)) (fun w1 hw => DrawMiss_c _ _ _ _ _ w1 (hk.hp hw rfl)) (fun _ => rfl) ?_
  rintro ⟨⟨xs15, gr15, gc15, gs15⟩, rn15, rs15⟩ ⟨⟨hgl15, hgc15⟩, hlen15⟩
  simp only at hgl15 hgc15 hlen15
  refine wl_v rfl (val_move (lk rfl)) ?_
  refine wl_v rfl (val_extract (lk rfl) rfl) ?_
  refine wl_v rfl (val_extract (lk rfl) rfl) ?_
  refine wl_v rfl (val_extract (lk rfl) rfl) ?_
  refine wl_v rfl (val_assign (lk rfl)) ?_
  refine wl_v rfl (val_assign (lk rfl)) ?_
  refine wl_v rfl (val_assign (lk rfl)) ?_
  refine wl_nil ?_
  refine px_then ?_
  refine wc_seq ?_
  refine wc_region ?_
  refine wl_v rfl (val_move (lk rfl)) ?_
  refine wl_v rfl (val_move (lk rfl)) ?_
  refine wl_v rfl (val_move (lk rfl)) ?_
  refine wl_callx rfl ci_27 (args3 (lk rfl) (lk rfl) (lk rfl)) (fun w1 hw => Miss_c xs15 _ _ _ _ rn15 rs15 w1 (Sl.own hw (.head _)) (by omega)) (fun _ => rfl) ?_
  rintro ⟨gb22, gc22, gs22⟩ ⟨hgl22, hgc22⟩
  have hml := missU_len xs15 rn15 rs15
  refine wl_v rfl (val_assign (lk rfl)) ?_
  refine wl_nil ?_
  refine px_then ?_
  refine wc_seq ?_
  refine wc_seq ?_
  refine wc_region ?_
  refine wl_v rfl (val_move (lk rfl)) ?_
  refine wl_v rfl (val_len es_44 (lk rfl)) ?_
  refine wl_v rfl (val_move (lk rfl)) ?_
  refine wl_v rfl (val_move (lk rfl)) ?_
  refine wl_v rfl (val_move (lk rfl)) ?_
  refine wl_callx rfl ci_28 (args3 (lk rfl) (lk rfl) (lk rfl)) (fun w1 hw => sMiss_c xs15 _ _ _ _ rn15 rs15 w1 (Sl.own hw (.tail _ (.head _))) (by omega)) (fun _ => rfl) ?_
  rintro ⟨gb28, gc28, gs28⟩ ⟨hgl28, hgc28⟩
  refine wl_v rfl (val_len es_44 (lk rfl)) ?_
  refine wl_v rfl (val_neq (lk rfl) (lk rfl)) ?_
  refine wl_nil ?_
  refine px_then ?_
  refine wc_cond (lk rfl) (fun hc1 => ?_) (fun hc1 => ?_)
  · (exfalso; revert hc1; simp)
  refine wc_skip ?_
  refine px_then ?_
  refine wc_seq ?_
  refine wc_seq ?_
  refine wc_region ?_
  refine wl_v rfl (val_assign lkc) ?_
  refine wl_nil ?_
  refine px_then ?_
  refine wc_block ?_
  refine wc_trim (l' := [(2, _), (3, _), (4, _), (5, _), (6, _), (7, _)]) ⟨rfl, rfl, rfl, rfl, rfl, rfl, trivial⟩ ?_
  refine wc_loop0 (X := Nat) (fun k => k ≤ (missU xs15 rn15 rs15).length) (fun k => [(7, (true, .int .i64 (k : Nat)))]) (fun k => (missU xs15 rn15 rs15).length - k) 0 (Nat.zero_le _) ⟨rfl, rfl, rfl, rfl, rfl, rfl, rfl, trivial⟩ ?_
  intro k hk0
  refine wc_seq ?_
  refine wc_seq ?_
  refine wc_region ?_
  refine wl_v rfl (val_move (lk rfl)) ?_
  refine wl_v rfl (val_move (lk rfl)) ?_
  refine wl_v rfl (val_len es_44 (lk rfl)) ?_
  refine wl_v rfl (val_lss (lk rfl) (lk rfl)) ?_
  refine wl_nil ?_
  refine px_then ?_
  refine wc_cond (lk rfl) (fun hc2 => ?_) (fun hc2 => ?_)
  · have hlt : k < (missU xs15 rn15 rs15).length := by have h9 : ((k : Nat) : Int) < (((missU xs15 rn15 rs15).length : Nat) : Int) := of_decide_eq_true hc2; omega
    refine wc_skip ?_
    refine px_then ?_
    refine wc_seq ?_
    refine wc_block ?_
    refine wc_seq ?_
    refine wc_region ?_
    refine wl_v rfl (val_move (lk rfl)) ?_
    refine wl_v rfl (val_move (lk rfl)) ?_
    refine wl_v rfl (val_move (lk rfl)) ?_
    refine wl_v rfl (val_move (lk rfl)) ?_
    refine wl_v rfl (val_index es_44 (lk rfl) (lk rfl) (fun hG => rfl) (fun hG => hlt)) ?_
    refine wl_v rfl (val_load1 t1_3 (lk rfl) (own_fld (.tail _ (.head _)) encI_len d0I (i := k) (f := 0) (fun _ => hlt) rfl)) ?_
    refine wl_v rfl (val_buildP (partsC (lk rfl) (partsC (lk rfl) (partsC (lk rfl) (partsC lkc parts0)))) (bl_31_0_1_2_3 _ _ _ _)) ?_
    refine wl_alloc zc_31 rfl fun b1 => ?_
    refine wl_storeB 0 rfl (lk rfl) (lk rfl) ag_31 rfl rfl ?_
    refine wl_nil ?_
    refine px_then ?_
    refine wc_seq ?_
    refine wc_seq ?_
    refine wc_region_q mo_ (by kernel_rfl) ?_
    refine wq_v rfl (val_move (lk rfl)) ?_
    refine wq_v rfl (val_move (lk rfl)) ?_
    refine wq_v rfl (val_index es_44 (lk rfl) (lk rfl) (fun hG => rfl) (fun hG => hlt)) ?_
    refine wq_v rfl (val_load1 t1_3 (lk rfl) (own_fld (.tail _ (.tail _ (.head _))) encI_len d0I (i := k) (f := 0) (fun _ => hlt) rfl)) ?_
    refine wq_v rfl (val_lss (lk rfl) lkc) ?_
    refine wq_v rfl (val_move (lk rfl)) ?_
    refine wq_val (gd_f rfl rfl rfl) rfl (val_move (lk rfl)) ?_
    refine wq_val (gd_f rfl rfl rfl) rfl (val_gtr (lkg rfl) lkc) ?_
    refine wq_val (gd_f rfl rfl rfl) rfl (val_move (lkg rfl)) ?_
    refine wq_val (gd_gt rfl rfl rfl) rfl (val_move (lk rfl)) ?_
    refine wq_val (gd_gt rfl rfl rfl) rfl (val_move (lk rfl)) ?_
    refine wq_val (gd_gt rfl rfl rfl) rfl (val_index es_44 (lkg rfl) (lkg rfl) (fun hG => rfl) (fun hG => hlt)) ?_
    refine wq_val (gd_gt rfl rfl rfl) rfl (val_load1 t1_3 (lkg rfl) (own_fld (.tail _ (.tail _ (.head _))) encI_len d0I (i := k) (f := 0) (fun _ => hlt) rfl)) ?_
    refine wq_val (gd_gt rfl rfl rfl) rfl (val_move (lk rfl)) ?_
    refine wq_val (gd_gt rfl rfl rfl) rfl (val_move (lk rfl)) ?_
    refine wq_val (gd_gt rfl rfl rfl) rfl (val_dec (lkg rfl) (fun hG => ⟨by simp at hG; omega, by omega⟩)) ?_
    refine wq_val (gd_gt rfl rfl rfl) rfl (val_index es_44 (lkg rfl) (lkg rfl) (fun hG => rfl) (fun hG => (by simp at hG; omega))) ?_
    refine wq_val (gd_gt rfl rfl rfl) rfl (val_load1 t1_3 (lkg rfl) (own_fld (.tail _ (.tail _ (.head _))) encI_len d0I (i := k - 1) (f := 0) (fun _ => by omega) rfl)) ?_
    refine wq_val (gd_gt rfl rfl rfl) rfl (val_leq (lkg rfl) (lkg rfl)) ?_
    refine wq_val (gd_f rfl rfl rfl) rfl (val_and (lkg rfl) (lkg rfl)) ?_
    refine wq_v rfl (val_or (lk rfl) (lkg rfl)) ?_
    refine wq_v rfl (val_move (lk rfl)) ?_
    refine wq_val (gd_f rfl rfl rfl) rfl (val_move (lk rfl)) ?_
    refine wq_val (gd_f rfl rfl rfl) rfl (val_loadB (.head _) (lk rfl) ag_31) ?_
    refine wq_call (gd_f rfl rfl rfl) rfl ci_13 (args2 (lkg rfl) (lkg rfl)) (fun hG w1 hw => FindU_c xs15 _ _ _ _ (⟨rn15, rs15, nth d0I (missU xs15 rn15 rs15) k, 1⟩ : Rec) w1 (Sl.own hw (.tail _ (.tail _ (.tail _ (.head _))))) (by omega)) ?_
    refine wq_val (gd_f rfl rfl rfl) rfl (val_neq (lkg rfl) lkc) ?_
    refine wq_v rfl (val_or (lk rfl) (lkg rfl)) ?_
    refine wq_nil ?_
    refine px_then ?_
    refine wc_cond (lk rfl) (fun hc3 => ?_) (fun hc3 => ?_)
    · (exfalso; rw [miss_chk hlt] at hc3; exact Bool.noConfusion hc3)
    refine wc_skip ?_
    refine px_then ?_
    refine wc_seq ?_
    refine wc_region ?_
    refine wl_v rfl (val_move (lk rfl)) ?_
    refine wl_v rfl (val_loadB (.head _) (lk rfl) ag_31) ?_
    refine wl_callx rfl ci_16 (args2 (lk rfl) (lk rfl)) (fun w1 hw => App_c xs15 _ _ _ _ (⟨rn15, rs15, nth d0I (missU xs15 rn15 rs15) k, 1⟩ : Rec) w1 (Sl.own hw (.tail _ (.tail _ (.tail _ (.head _))))) (by omega)) (fun _ => rfl) ?_
    rintro ⟨gb74, gc74, gs74⟩ ⟨hgl74, hgc74⟩
    have hal := appU_le xs15 (⟨rn15, rs15, nth d0I (missU xs15 rn15 rs15) k, 1⟩ : Rec)
    refine wl_v rfl (val_move (lk rfl)) ?_
    refine wl_v rfl (val_extract (lk rfl) rfl) ?_
    refine wl_v rfl (val_extract (lk rfl) rfl) ?_
    refine wl_v rfl (val_assign (lk rfl)) ?_
    refine wl_v rfl (val_assign (lk rfl)) ?_
    refine wl_nil ?_
    refine px_then ?_
    refine wc_seq ?_
    rcases Bool.eq_false_or_eq_true (okAll (xs15 ++ [(⟨rn15, rs15, nth d0I (missU xs15 rn15 rs15) k, 1⟩ : Rec)])) with hb | hb
    · refine wc_region_a0 20 mo_ rfl ?_
      refine wa_take 0 rfl (by kernel_rfl) (by kernel_rfl) (by kernel_rfl) (by kernel_rfl) (fun _ h => h.dropN 0 rfl) gd_none rfl (val_move (lk rfl)) ?_
      refine wa_take 1 rfl (by kernel_rfl) (by kernel_rfl) (by kernel_rfl) (by kernel_rfl) (fun _ h => h.dropN 0 rfl) gd_none rfl ((val_move (lk rfl)).eq (congrArg Value.bool hb)) ?_
      refine wa_take 2 rfl (by kernel_rfl) (by kernel_rfl) (by kernel_rfl) (by kernel_rfl) (fun _ h => h.dropN 0 rfl) (gd_t rfl rfl rfl) rfl (val_move (lk rfl)) ?_
      refine wa_take 3 rfl (by kernel_rfl) (by kernel_rfl) (by kernel_rfl) (by kernel_rfl) (fun _ h => h.dropN 0 rfl) (gd_t rfl rfl rfl) rfl (val_loadB (.tail _ (.head _)) (lk rfl) ag_31) ?_
      refine wa_take 5 rfl (by kernel_rfl) (by kernel_rfl) (by kernel_rfl) (by kernel_rfl) (fun _ h => h.dropN 0 rfl) (gd_t rfl rfl rfl) rfl (val_move (lk rfl)) ?_
      refine wa_take 6 rfl (by kernel_rfl) (by kernel_rfl) (by kernel_rfl) (by kernel_rfl) (fun _ h => h.dropN 0 rfl) (gd_t rfl rfl rfl) rfl (val_len es_24 (lkg rfl)) ?_
      refine wa_only 4 (by kernel_rfl) rfl ?_
      refine wl_call (gd_t rfl rfl rfl) rfl ci_13 (args2 (lkg rfl) (lkg rfl)) (fun hG w1 hw => FindU_c (appU xs15 (⟨rn15, rs15, nth d0I (missU xs15 rn15 rs15) k, 1⟩ : Rec)) _ _ _ _ (⟨rn15, rs15, nth d0I (missU xs15 rn15 rs15) k, 1⟩ : Rec) w1 (Sl.own hw (.head _)) (by omega)) ?_
      refine wl_nil (px_qn (fun _ h => h.dropN 0 rfl) ?_)
      refine wa_take 7 rfl (by kernel_rfl) (by kernel_rfl) (by kernel_rfl) (by kernel_rfl) (fun _ h => h.dropN 0 rfl) (gd_t rfl rfl rfl) rfl (val_neq (lkg rfl) (lkg rfl)) ?_
      refine wa_take 8 rfl (by kernel_rfl) (by kernel_rfl) (by kernel_rfl) (by kernel_rfl) (fun _ h => h.dropN 0 rfl) (gd_t rfl rfl rfl) rfl ((val_move (lkg rfl)).eq (congrArg Value.bool (miss_fnd hb))) ?_
      refine wa_take 9 rfl (by kernel_rfl) (by kernel_rfl) (by kernel_rfl) (by kernel_rfl) (fun _ h => h.dropN 0 rfl) (gd_gf rfl rfl rfl) rfl (val_move (lk rfl)) ?_
      refine wa_take 10 rfl (by kernel_rfl) (by kernel_rfl) (by kernel_rfl) (by kernel_rfl) (fun _ h => h.dropN 0 rfl) (gd_gf rfl rfl rfl) rfl (val_move (lk rfl)) ?_
      refine wa_take 11 rfl (by kernel_rfl) (by kernel_rfl) (by kernel_rfl) (by kernel_rfl) (fun _ h => h.dropN 0 rfl) (gd_gf rfl rfl rfl) rfl (val_move (lk rfl)) ?_
      refine wa_take 13 rfl (by kernel_rfl) (by kernel_rfl) (by kernel_rfl) (by kernel_rfl) (fun _ h => h.dropN 0 rfl) (gd_gf rfl rfl rfl) rfl (val_move (lk rfl)) ?_
      refine wa_take 14 rfl (by kernel_rfl) (by kernel_rfl) (by kernel_rfl) (by kernel_rfl) (fun _ h => h.dropN 0 rfl) (gd_gf rfl rfl rfl) rfl (val_move (lk rfl)) ?_
      refine wa_take 15 rfl (by kernel_rfl) (by kernel_rfl) (by kernel_rfl) (by kernel_rfl) (fun _ h => h.dropN 0 rfl) (gd_gf rfl rfl rfl) rfl (val_index es_44 (lkg rfl) (lkg rfl) (fun hG => rfl) (fun hG => hlt)) ?_
      refine wa_take 16 rfl (by kernel_rfl) (by kernel_rfl) (by kernel_rfl) (by kernel_rfl) (fun _ h => h.dropN 0 rfl) (gd_gf rfl rfl rfl) rfl (val_load1 t1_3 (lkg rfl) (own_fld (.tail _ (.tail _ (.tail _ (.head _)))) encI_len d0I (i := k) (f := 0) (fun _ => hlt) rfl)) ?_
      refine wa_only 12 (by kernel_rfl) rfl ?_
      refine wl_callxg (gd_gf rfl rfl rfl) rfl rfl ci_27 (args3 (lkg rfl) (lkg rfl) (lkg rfl)) (fun w1 hw => Miss_c (appU xs15 (⟨rn15, rs15, nth d0I (missU xs15 rn15 rs15) k, 1⟩ : Rec)) _ _ _ _ rn15 rs15 w1 (Sl.own hw (.head _)) (by omega)) (fun _ => rfl) ?_
      rintro ⟨gb89, gc89, gs89⟩ ⟨hgl89, hgc89⟩
      have hml2 := missU_len (appU xs15 (⟨rn15, rs15, nth d0I (missU xs15 rn15 rs15) k, 1⟩ : Rec)) rn15 rs15
      refine wl_nil (px_qn (fun _ h => h.dropN 1 rfl) ?_)
      refine wa_only 17 (by kernel_rfl) rfl ?_
      refine wl_call (gd_gf rfl rfl rfl) rfl ci_29 (args2 (lkg rfl) (lkg rfl)) (fun hG w1 hw => contains_c (missU (appU xs15 (⟨rn15, rs15, nth d0I (missU xs15 rn15 rs15) k, 1⟩ : Rec)) rn15 rs15) _ _ _ _ _ w1 (Sl.own hw (.head _)) (by omega)) ?_
      refine wl_nil (px_qn (fun _ h => h.dropN 1 rfl) ?_)
      refine wa_take 18 rfl (by kernel_rfl) (by kernel_rfl) (by kernel_rfl) (by kernel_rfl) (fun _ h => h.dropN 1 rfl) (gd_t rfl rfl rfl) rfl (val_or (lkg rfl) (lkg rfl)) ?_
      refine wa_take 19 rfl (by kernel_rfl) (by kernel_rfl) (by kernel_rfl) (by kernel_rfl) (fun _ h => h.dropN 1 rfl) gd_none rfl (val_and (lk rfl) (lkg rfl)) ?_
      refine wa_done (by kernel_rfl) ?_
      refine px_then ?_
      refine wc_cond (lk rfl) (fun hc4 => ?_) (fun hc4 => ?_)
      · (exfalso; revert hc4; first | (rw [miss_con hb]; simp; done) | (simp; done))
      refine wc_skip ?_
      refine px_block ?_
      refine px_then ?_
      refine wc_region ?_
      refine wl_v rfl (val_move (lk rfl)) ?_
      refine wl_v rfl (val_inc (lk rfl) (by omega)) ?_
      refine wl_v rfl (val_assign (lk rfl)) ?_
      refine wl_nil ?_
      refine px_round0 (k + 1) (by omega) (by omega) (⟨rfl, rfl, rfl, rfl, rfl, rfl, rfl, trivial⟩) (fun _ h => h.dropN 3 rfl)
    · refine wc_region_a0 20 mo_ rfl ?_
      refine wa_take 0 rfl (by kernel_rfl) (by kernel_rfl) (by kernel_rfl) (by kernel_rfl) (fun _ h => h.dropN 0 rfl) gd_none rfl (val_move (lk rfl)) ?_
      refine wa_take 1 rfl (by kernel_rfl) (by kernel_rfl) (by kernel_rfl) (by kernel_rfl) (fun _ h => h.dropN 0 rfl) gd_none rfl ((val_move (lk rfl)).eq (congrArg Value.bool hb)) ?_
      refine wa_take 2 rfl (by kernel_rfl) (by kernel_rfl) (by kernel_rfl) (by kernel_rfl) (fun _ h => h.dropN 0 rfl) (gd_t rfl rfl rfl) rfl (val_move (lk rfl)) ?_
      refine wa_take 3 rfl (by kernel_rfl) (by kernel_rfl) (by kernel_rfl) (by kernel_rfl) (fun _ h => h.dropN 0 rfl) (gd_t rfl rfl rfl) rfl (val_loadB (.tail _ (.head _)) (lk rfl) ag_31) ?_
      refine wa_take 5 rfl (by kernel_rfl) (by kernel_rfl) (by kernel_rfl) (by kernel_rfl) (fun _ h => h.dropN 0 rfl) (gd_t rfl rfl rfl) rfl (val_move (lk rfl)) ?_
      refine wa_take 6 rfl (by kernel_rfl) (by kernel_rfl) (by kernel_rfl) (by kernel_rfl) (fun _ h => h.dropN 0 rfl) (gd_t rfl rfl rfl) rfl (val_len es_24 (lkg rfl)) ?_
      refine wa_only 4 (by kernel_rfl) rfl ?_
      refine wl_call (gd_t rfl rfl rfl) rfl ci_13 (args2 (lkg rfl) (lkg rfl)) (fun hG w1 hw => FindU_c (appU xs15 (⟨rn15, rs15, nth d0I (missU xs15 rn15 rs15) k, 1⟩ : Rec)) _ _ _ _ (⟨rn15, rs15, nth d0I (missU xs15 rn15 rs15) k, 1⟩ : Rec) w1 (Sl.own hw (.head _)) (by omega)) ?_
      refine wl_nil (px_qn (fun _ h => h.dropN 0 rfl) ?_)
      refine wa_take 7 rfl (by kernel_rfl) (by kernel_rfl) (by kernel_rfl) (by kernel_rfl) (fun _ h => h.dropN 0 rfl) (gd_t rfl rfl rfl) rfl (val_neq (lkg rfl) (lkg rfl)) ?_
      refine wa_take 8 rfl (by kernel_rfl) (by kernel_rfl) (by kernel_rfl) (by kernel_rfl) (fun _ h => h.dropN 0 rfl) (gd_t rfl rfl rfl) rfl (val_move (lkg rfl)) ?_
      refine wa_take 9 rfl (by kernel_rfl) (by kernel_rfl) (by kernel_rfl) (by kernel_rfl) (fun _ h => h.dropN 0 rfl) (gd_gf rfl rfl rfl) rfl (val_move (lk rfl)) ?_
      refine wa_take 10 rfl (by kernel_rfl) (by kernel_rfl) (by kernel_rfl) (by kernel_rfl) (fun _ h => h.dropN 0 rfl) (gd_gf rfl rfl rfl) rfl (val_move (lk rfl)) ?_
      refine wa_take 11 rfl (by kernel_rfl) (by kernel_rfl) (by kernel_rfl) (by kernel_rfl) (fun _ h => h.dropN 0 rfl) (gd_gf rfl rfl rfl) rfl (val_move (lk rfl)) ?_
      refine wa_take 13 rfl (by kernel_rfl) (by kernel_rfl) (by kernel_rfl) (by kernel_rfl) (fun _ h => h.dropN 0 rfl) (gd_gf rfl rfl rfl) rfl (val_move (lk rfl)) ?_
      refine wa_take 14 rfl (by kernel_rfl) (by kernel_rfl) (by kernel_rfl) (by kernel_rfl) (fun _ h => h.dropN 0 rfl) (gd_gf rfl rfl rfl) rfl (val_move (lk rfl)) ?_
      refine wa_take 15 rfl (by kernel_rfl) (by kernel_rfl) (by kernel_rfl) (by kernel_rfl) (fun _ h => h.dropN 0 rfl) (gd_gf rfl rfl rfl) rfl (val_index es_44 (lkg rfl) (lkg rfl) (fun hG => rfl) (fun hG => hlt)) ?_
      refine wa_take 16 rfl (by kernel_rfl) (by kernel_rfl) (by kernel_rfl) (by kernel_rfl) (fun _ h => h.dropN 0 rfl) (gd_gf rfl rfl rfl) rfl (val_load1 t1_3 (lkg rfl) (own_fld (.tail _ (.tail _ (.tail _ (.head _)))) encI_len d0I (i := k) (f := 0) (fun _ => hlt) rfl)) ?_
      refine wa_only 12 (by kernel_rfl) rfl ?_
      refine wl_skip (v := .slice none 0 0) (gd_gf rfl rfl rfl) rfl rfl ?_
      refine wl_nil (px_qn (fun _ h => h.dropN 0 rfl) ?_)
      refine wa_only 17 (by kernel_rfl) rfl ?_
      refine wl_skip (v := .bool false) (gd_gf rfl rfl rfl) rfl rfl ?_
      refine wl_nil (px_qn (fun _ h => h.dropN 0 rfl) ?_)
      refine wa_take 18 rfl (by kernel_rfl) (by kernel_rfl) (by kernel_rfl) (by kernel_rfl) (fun _ h => h.dropN 0 rfl) (gd_t rfl rfl rfl) rfl (val_or (lkg rfl) (lkg rfl)) ?_
      refine wa_take 19 rfl (by kernel_rfl) (by kernel_rfl) (by kernel_rfl) (by kernel_rfl) (fun _ h => h.dropN 0 rfl) gd_none rfl (val_and (lk rfl) (lkg rfl)) ?_
      refine wa_done (by kernel_rfl) ?_
      refine px_then ?_
      refine wc_cond (lk rfl) (fun hc4 => ?_) (fun hc4 => ?_)
      · (exfalso; revert hc4; first | (rw [miss_con hb]; simp; done) | (simp; done))
      refine wc_skip ?_
      refine px_block ?_
      refine px_then ?_
      refine wc_region ?_
      refine wl_v rfl (val_move (lk rfl)) ?_
      refine wl_v rfl (val_inc (lk rfl) (by omega)) ?_
      refine wl_v rfl (val_assign (lk rfl)) ?_
      refine wl_nil ?_
      refine px_round0 (k + 1) (by omega) (by omega) (⟨rfl, rfl, rfl, rfl, rfl, rfl, rfl, trivial⟩) (fun _ h => h.dropN 2 rfl)
  have hge : k = (missU xs15 rn15 rs15).length := by have h9 : ¬ ((k : Nat) : Int) < (((missU xs15 rn15 rs15).length : Nat) : Int) := of_decide_eq_false hc2; omega
  subst hge
  refine wc_exit ?_
  refine px_then_exit ?_
  refine px_then_exit ?_
  refine px_block_exit ?_
  refine px_then ?_
  refine wc_seq ?_
  refine wc_region ?_
  refine wl_v rfl (val_assign lkc) ?_
  refine wl_nil ?_
  refine px_then ?_
  refine wc_ret ?_
  refine fin1 rfl (res_tmp rfl) (fun w1 hw => ?_)
  exact ⟨rfl, hw.drop rfl⟩

end Go.Proofs.Ytcdinidpclmmeaa
