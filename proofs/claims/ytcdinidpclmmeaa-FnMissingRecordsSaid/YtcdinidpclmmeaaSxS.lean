/- MissingRecords, and the law on it, walked. -/
import Derived.Test.YtcdinidpclmmeaaSxP
namespace Go.Proofs.Ytcdinidpclmmeaa
open Go.RowKit


def encI (n : Int) : List Int := [n]
theorem encI_len (n : Int) : (encI n).length = 1 := rfl
def eqI (m n : Int) : Bool := m == n
theorem eqI_refl (n : Int) : eqI n n = true := by simp [eqI]
abbrev d0I : Int := 0


def mostU (rs : List Rec) (net sid : Int) : Nat → Int
  | 0 => 0
  | k + 1 => if ((nth d0U rs k).net == net) && ((nth d0U rs k).sid == sid) then imax (mostU rs net sid k) (imin (nth d0U rs k).seq 100000) else mostU rs net sid k
def topU (rs : List Rec) (net sid : Int) : Nat → Int
  | 0 => 0
  | k + 1 => if ((nth d0U rs k).net == net) && ((nth d0U rs k).sid == sid) then imax (topU rs net sid k) (nth d0U rs k).seq else topU rs net sid k
theorem most_top (rs : List Rec) (net sid : Int) : ∀ k, imin (topU rs net sid k) 100000 = mostU rs net sid k
  | 0 => rfl
  | k + 1 => by
    have ih := most_top rs net sid k
    unfold topU mostU
    split
    · rw [← ih]; unfold imax imin; split <;> split <;> split <;> (try split) <;> omega
    · exact ih
theorem most_le (rs : List Rec) (net sid : Int) (k : Nat) : mostU rs net sid k ≤ 100000 := by
  rw [← most_top]; unfold imin; split <;> omega
def missN (rs : List Rec) (net sid : Int) : Nat → List Int
  | 0 => []
  | j + 1 => if findU rs ⟨net, sid, ((1 + j : Nat) : Int), 0⟩ < 0 then missN rs net sid j ++ [((1 + j : Nat) : Int)] else missN rs net sid j
def missC (rs : List Rec) (net sid : Int) (j : Nat) : Bool := decide (((1 + j : Nat) : Int) < mostU rs net sid rs.length) && decide (((missN rs net sid j).length : Int) < 24)
def missR (rs : List Rec) (net sid : Int) : Nat → Nat → List Int
  | 0, j => missN rs net sid j
  | f + 1, j => if missC rs net sid j then missR rs net sid f (j + 1) else missN rs net sid j
theorem missR_stop {rs : List Rec} {net sid : Int} {f j : Nat} (h : missC rs net sid j = false) : missR rs net sid f j = missN rs net sid j := by
  cases f <;> simp [missR, h]
theorem missN_len (rs : List Rec) (net sid : Int) : ∀ j, (missN rs net sid j).length ≤ j
  | 0 => Nat.le_refl _
  | j + 1 => by
    have := missN_len rs net sid j
    unfold missN
    split
    · simp; omega
    · omega
def missU (rs : List Rec) (net sid : Int) : List Int := missR rs net sid 100000 0
theorem missR_len (rs : List Rec) (net sid : Int) : ∀ f j, (missR rs net sid f j).length ≤ f + j
  | 0, j => by rw [missR]; have := missN_len rs net sid j; omega
  | f + 1, j => by
    unfold missR
    split
    · have := missR_len rs net sid f (j + 1); omega
    · have := missN_len rs net sid j; omega
theorem missU_len (rs : List Rec) (net sid : Int) : (missU rs net sid).length ≤ 100000 := missR_len rs net sid 100000 0

theorem sMiss_c (rs : List Rec) (A : Option Addr) (b o c : Nat) (net sid : Int) (w : World) (hs : Sl w A b o (flat encU rs)) (hl : rs.length ≤ 2097152) :
    Calls Try.prog 28 #[.slice A rs.length c, .int .i64 net, .int .i64 sid] w fun e w' => ∃ x : Nat × Nat × List Value, ((flat encI (missU rs net sid) ++ x.2.2).length = x.2.1 * 1 ∧ x.2.1 ≤ 9223372036854775807) ∧ e = .returned (.slice (some ⟨x.1, 0, none⟩) (missU rs net sid).length x.2.1) ∧ HP w [⟨x.1, true, 3, flat encI (missU rs net sid) ++ x.2.2⟩] w' := by
  refine calls_entry [] _ Try.func28 rfl Try.ntmps28 (HP.refl w) (env3 rfl) ?_
  refine wc_seq ?_
  refine wc_region ?_
  refine wl_v rfl (val_assign lkc) ?_
  refine wl_nil ?_
  refine px_then ?_
  refine wc_seq ?_
  refine wc_region ?_
  refine wl_v rfl (val_assign lkc) ?_
  refine wl_nil ?_
  refine px_then ?_
  refine wc_seq ?_
  refine wc_seq ?_
  refine wc_region ?_
  refine wl_v rfl (val_assign lkc) ?_
  refine wl_nil ?_
  refine px_then ?_
  refine wc_block ?_
  refine wc_trim (l' := [(0, _), (1, _), (2, _), (6, _), (7, _), (8, _)]) ⟨rfl, rfl, rfl, rfl, rfl, rfl, trivial⟩ ?_
  refine wc_loop0 (X := Nat) (fun k => k ≤ rs.length) (fun k => [(7, (true, .int .i64 (mostU rs net sid k))), (8, (true, .int .i64 (k : Nat)))]) (fun k => rs.length - k) 0 (Nat.zero_le _) ⟨rfl, rfl, rfl, rfl, rfl, rfl, rfl, rfl, trivial⟩ ?_
  intro k hk
  refine wc_seq ?_
  refine wc_seq ?_
  refine wc_region ?_
  refine wl_v rfl (val_move (lk rfl)) ?_
  refine wl_v rfl (val_move (lk rfl)) ?_
  refine wl_v rfl (val_len es_24 (lk rfl)) ?_
  refine wl_v rfl (val_lss (lk rfl) (lk rfl)) ?_
  refine wl_nil ?_
  refine px_then ?_
  refine wc_cond (lk rfl) (fun hc0 => ?_) (fun hc0 => ?_)
  · have hlt : k < rs.length := by have := of_decide_eq_true hc0; omega
    refine wc_skip ?_
    refine px_then ?_
    refine wc_seq ?_
    refine wc_block ?_
    refine wc_seq ?_
    refine wc_region ?_
    refine wl_v rfl (val_move (lk rfl)) ?_
    refine wl_v rfl (val_move (lk rfl)) ?_
    refine wl_v rfl (val_index es_24 (lk rfl) (lk rfl) (fun hG => hs.hd encU_len (by decide) (i := k) hlt) (fun hG => hlt)) ?_
    refine wl_v rfl (val_field fo_31_0 (lk rfl)) ?_
    refine wl_v rfl (val_load1 t1_3 (lk rfl) (cell_old rfl fun hG => hs.fld encU_len d0U (i := k) (f := 0) (hlt) (by decide) rfl)) ?_
    refine wl_v rfl (val_move (lk rfl)) ?_
    refine wl_v rfl (val_eql (lk rfl) (lk rfl)) ?_
    refine wl_v rfl (val_move (lk rfl)) ?_
    refine wl_val (gd_t rfl rfl rfl) rfl (val_move (lk rfl)) ?_
    refine wl_val (gd_t rfl rfl rfl) rfl (val_move (lk rfl)) ?_
    refine wl_val (gd_t rfl rfl rfl) rfl (val_index es_24 (lkg rfl) (lkg rfl) (fun hG => hs.hd encU_len (by decide) (i := k) hlt) (fun hG => hlt)) ?_
    refine wl_val (gd_t rfl rfl rfl) rfl (val_field fo_31_1 (lkg rfl)) ?_
    refine wl_val (gd_t rfl rfl rfl) rfl (val_load1 t1_3 (lkg rfl) (cell_old rfl fun hG => hs.fld encU_len d0U (i := k) (f := 1) (hlt) (by decide) rfl)) ?_
    refine wl_val (gd_t rfl rfl rfl) rfl (val_move (lk rfl)) ?_
    refine wl_val (gd_t rfl rfl rfl) rfl (val_eql (lkg rfl) (lkg rfl)) ?_
    refine wl_v rfl (val_and (lk rfl) (lkg rfl)) ?_
    refine wl_nil ?_
    refine px_then ?_
    refine wc_cond (lk rfl) (fun hc1 => ?_) (fun hc1 => ?_)
    · refine wc_region ?_
      refine wl_v rfl (val_move (lk rfl)) ?_
      refine wl_v rfl (val_move (lk rfl)) ?_
      refine wl_v rfl (val_move (lk rfl)) ?_
      refine wl_v rfl (val_index es_24 (lk rfl) (lk rfl) (fun hG => hs.hd encU_len (by decide) (i := k) hlt) (fun hG => hlt)) ?_
      refine wl_v rfl (val_field fo_31_2 (lk rfl)) ?_
      refine wl_v rfl (val_load1 t1_3 (lk rfl) (cell_old rfl fun hG => hs.fld encU_len d0U (i := k) (f := 2) (hlt) (by decide) rfl)) ?_
      refine wl_call gd_none rfl ci_33 (args2 (lk rfl) lkc) (fun hG w1 hw => sMin_c _ _ w1) ?_
      refine wl_call gd_none rfl ci_48 (args2 (lk rfl) (lk rfl)) (fun hG w1 hw => sMax_c _ _ w1) ?_
      refine wl_v rfl (val_assign (lk rfl)) ?_
      refine wl_nil ?_
      refine px_block ?_
      refine px_then ?_
      refine wc_region ?_
      refine wl_v rfl (val_move (lk rfl)) ?_
      refine wl_v rfl (val_inc (lk rfl) (by omega)) ?_
      refine wl_v rfl (val_assign (lk rfl)) ?_
      refine wl_nil ?_
      refine px_round0 (k + 1) (by omega) (by omega) (⟨slotI (by simp [mostU, hc1]), rfl, rfl, rfl, rfl, rfl, slotI (by simp [mostU, hc1]), rfl, trivial⟩) (fun _ h => h.dropN 0 rfl)
    refine wc_skip ?_
    refine px_block ?_
    refine px_then ?_
    refine wc_region ?_
    refine wl_v rfl (val_move (lk rfl)) ?_
    refine wl_v rfl (val_inc (lk rfl) (by omega)) ?_
    refine wl_v rfl (val_assign (lk rfl)) ?_
    refine wl_nil ?_
    refine px_round0 (k + 1) (by omega) (by omega) (⟨slotI (by simp [mostU, hc1]), rfl, rfl, rfl, rfl, rfl, slotI (by simp [mostU, hc1]), rfl, trivial⟩) (fun _ h => h.dropN 0 rfl)
  have hge : k = rs.length := by have := of_decide_eq_false hc0; omega
  subst hge
  refine wc_exit ?_
  refine px_then_exit ?_
  refine px_then_exit ?_
  refine px_block_exit ?_
  refine px_then ?_
  refine wc_seq ?_
  refine wc_region ?_
  refine wl_bslice parts0 bsl_44_0_ rfl fun b1 => ?_
  refine wl_v rfl (val_assign (lk rfl)) ?_
  refine wl_nil ?_
  refine px_then ?_
  refine wc_seq ?_
  refine wc_seq ?_
  refine wc_region ?_
  refine wl_v rfl (val_assign lkc) ?_
  refine wl_nil ?_
  refine px_then ?_
  refine wc_block ?_
  refine wc_trim (l' := [(0, _), (1, _), (2, _), (6, _), (7, _), (9, _), (10, _)]) ⟨rfl, rfl, rfl, rfl, rfl, rfl, rfl, trivial⟩ ?_
  refine wc_loopl (X := Nat × Nat × Nat × List Value) (fun x => x.1 ≤ 100000 ∧ missR rs net sid (100000 - x.1) x.1 = missU rs net sid ∧ (flat encI (missN rs net sid x.1) ++ x.2.2.2).length = x.2.2.1 * 1 ∧ x.2.2.1 ≤ 9223372036854775807) (fun x => [(9, (true, .slice (some ⟨x.2.1, 0, none⟩) (missN rs net sid x.1).length x.2.2.1)), (10, (true, .int .i64 ((1 + x.1 : Nat) : Int)))]) (fun x => [⟨x.2.1, true, 3, flat encI (missN rs net sid x.1) ++ x.2.2.2⟩]) (fun x => 100000 - x.1) (0, b1, 0, []) (⟨Nat.zero_le _, rfl, rfl, Nat.zero_le _⟩) ⟨rfl, rfl, rfl, rfl, rfl, rfl, rfl, rfl, rfl, trivial⟩ (fun _ h => h) ?_
  rintro ⟨k, gb, gc, gs⟩ ⟨hk, hR, hgl, hgc⟩
  refine wc_seq ?_
  refine wc_seq ?_
  refine wc_region ?_
  refine wl_v rfl (val_move (lk rfl)) ?_
  refine wl_v rfl (val_move (lk rfl)) ?_
  refine wl_v rfl (val_lss (lk rfl) (lk rfl)) ?_
  refine wl_v rfl (val_move (lk rfl)) ?_
  refine wl_val (gd_t rfl rfl rfl) rfl (val_move (lk rfl)) ?_
  refine wl_val (gd_t rfl rfl rfl) rfl (val_len es_44 (lkg rfl)) ?_
  refine wl_val (gd_t rfl rfl rfl) rfl (val_lss (lkg rfl) lkc) ?_
  refine wl_v rfl (val_and (lk rfl) (lkg rfl)) ?_
  refine wl_nil ?_
  refine px_then ?_
  refine wc_cond (lk rfl) (fun hc2 => ?_) (fun hc2 => ?_)
  · have hmc : missC rs net sid k = true := hc2
    have hlt : k < 100000 := by have h1 := of_decide_eq_true (Bool.and_eq_true _ _ ▸ hmc : _ ∧ _).1; have := most_le rs net sid rs.length; omega
    have hdk := missN_len rs net sid k
    have hR2 : missR rs net sid (100000 - (k + 1)) (k + 1) = missU rs net sid := by rw [← hR, show 100000 - k = (100000 - (k + 1)) + 1 by omega, missR, if_pos hmc]
    refine wc_skip ?_
    refine px_then ?_
    refine wc_seq ?_
    refine wc_block ?_
    refine wc_seq ?_
    refine wc_region ?_
    refine wl_v rfl (val_move (lk rfl)) ?_
    refine wl_v rfl (val_move (lk rfl)) ?_
    refine wl_v rfl (val_move (lk rfl)) ?_
    refine wl_v rfl (val_move (lk rfl)) ?_
    refine wl_v rfl (val_buildP (partsC (lk rfl) (partsC (lk rfl) (partsC (lk rfl) parts0))) (bl_31_0_1_2 _ _ _)) ?_
    refine wl_call gd_none rfl ci_24 (args2 (lk rfl) (lk rfl)) (fun hG w1 hw => sFindU_c rs _ _ _ _ ⟨net, sid, ((1 + k : Nat) : Int), 0⟩ w1 (hs.hp hw rfl) (by omega)) ?_
    refine wl_v rfl (val_lss (lk rfl) lkc) ?_
    refine wl_nil ?_
    refine px_then ?_
    refine wc_cond (lk rfl) (fun hc3 => ?_) (fun hc3 => ?_)
    · have hst : missN rs net sid (k + 1) = missN rs net sid k ++ [((1 + k : Nat) : Int)] := by rw [missN, if_pos (of_decide_eq_true hc3)]
      refine wc_region ?_
      refine wl_v rfl (val_move (lk rfl)) ?_
      refine wl_v rfl (val_move (lk rfl)) ?_
      refine wl_bslice (partsC (lk rfl) parts0) (bsl_44_1_0 _) rfl fun b2 => ?_
      refine wl_appendR encI_len (by decide) (missN rs net sid k) [((1 + k : Nat) : Int)] 1 es_44 zc_3 rfl eb_3 (lk rfl) rfl hgl hgc (lk rfl) (fun _ hw => Sl.own' (vs := flat encI [((1 + k : Nat) : Int)]) hw (.head _)) (by first | omega | (simp only [List.length_nil]; omega) | (simp only [List.length_cons, List.length_nil]; omega)) (by first | omega | (simp only [List.length_nil]; omega) | (simp only [List.length_cons, List.length_nil]; omega)) rfl fun a62 ac62 as62 hal62 ham62 => ?_
      refine wl_v rfl (val_assign (lk rfl)) ?_
      refine wl_nil ?_
      refine px_block ?_
      refine px_then ?_
      refine wc_region ?_
      refine wl_v rfl (val_move (lk rfl)) ?_
      refine wl_v rfl (val_inc (lk rfl) (by omega)) ?_
      refine wl_v rfl (val_assign (lk rfl)) ?_
      refine wl_nil ?_
      refine px_round ((k + 1, a62, ac62, as62)) (⟨by show k + 1 ≤ _; omega, hR2, by show (flat encI (missN rs net sid (k + 1)) ++ _).length = _; rw [hst]; exact hal62, ham62⟩) (by show 100000 - (k + 1) < 100000 - k; omega) (⟨slotS (congrArg List.length hst.symm), slotN (by show 1 + k + 1 = 1 + (k + 1); omega), rfl, rfl, rfl, rfl, rfl, slotS (congrArg List.length hst.symm), slotN (by show 1 + k + 1 = 1 + (k + 1); omega), trivial⟩) (fun w1 h => by
        have h2 := h.mask [true, false] rfl
        show HP w [⟨_, true, 3, flat encI (missN rs net sid (k + 1)) ++ _⟩] w1
        rw [hst]
        exact h2)
    have hst : missN rs net sid (k + 1) = missN rs net sid k := by rw [missN, if_neg (of_decide_eq_false hc3)]
    refine wc_skip ?_
    refine px_block ?_
    refine px_then ?_
    refine wc_region ?_
    refine wl_v rfl (val_move (lk rfl)) ?_
    refine wl_v rfl (val_inc (lk rfl) (by omega)) ?_
    refine wl_v rfl (val_assign (lk rfl)) ?_
    refine wl_nil ?_
    refine px_round ((k + 1, gb, gc, gs)) (⟨by show k + 1 ≤ _; omega, hR2, by show (flat encI (missN rs net sid (k + 1)) ++ _).length = _; rw [hst]; exact hgl, hgc⟩) (by show 100000 - (k + 1) < 100000 - k; omega) (⟨slotS (congrArg List.length hst.symm), slotN (by show 1 + k + 1 = 1 + (k + 1); omega), rfl, rfl, rfl, rfl, rfl, slotS (congrArg List.length hst.symm), slotN (by show 1 + k + 1 = 1 + (k + 1); omega), trivial⟩) (fun w1 h => by
      have h2 := h.mask [true] rfl
      show HP w [⟨_, true, 3, flat encI (missN rs net sid (k + 1)) ++ _⟩] w1
      rw [hst]
      exact h2)
  have hmc : missC rs net sid k = false := hc2
  have hfin : missN rs net sid k = missU rs net sid := by rw [← hR, missR_stop hmc]
  refine wc_exit ?_
  refine px_then_exit ?_
  refine px_then_exit ?_
  refine px_block_exit ?_
  refine px_then ?_
  refine wc_seq ?_
  refine wc_region ?_
  refine wl_v rfl (val_move (lk rfl)) ?_
  refine wl_v rfl (val_assign (lk rfl)) ?_
  refine wl_nil ?_
  refine px_then ?_
  refine wc_ret ?_
  refine fin1 rfl (res_tmp rfl) (fun w1 hw => ?_)
  show ∃ x : Nat × Nat × List Value, _
  rw [← hfin]
  exact ⟨(gb, gc, gs), ⟨hgl, hgc⟩, rfl, hw.mask [true] rfl⟩

theorem Miss_c (rs : List Rec) (A : Option Addr) (b o c : Nat) (net sid : Int) (w : World) (hs : Sl w A b o (flat encU rs)) (hl : rs.length ≤ 2097152) :
    Calls Try.prog 27 #[.slice A rs.length c, .int .i64 net, .int .i64 sid] w fun e w' => ∃ x : Nat × Nat × List Value, ((flat encI (missU rs net sid) ++ x.2.2).length = x.2.1 * 1 ∧ x.2.1 ≤ 9223372036854775807) ∧ e = .returned (.slice (some ⟨x.1, 0, none⟩) (missU rs net sid).length x.2.1) ∧ HP w [⟨x.1, true, 3, flat encI (missU rs net sid) ++ x.2.2⟩] w' := by
  refine calls_entry [] _ Try.func27 rfl Try.ntmps27 (HP.refl w) (env3 rfl) ?_
  refine wc_seq ?_
  refine wc_region ?_
  refine wl_v rfl (val_assign lkc) ?_
  refine wl_nil ?_
  refine px_then ?_
  refine wc_seq ?_
  refine wc_region ?_
  refine wl_v rfl (val_assign lkc) ?_
  refine wl_nil ?_
  refine px_then ?_
  refine wc_seq ?_
  refine wc_seq ?_
  refine wc_region ?_
  refine wl_v rfl (val_move (lk rfl)) ?_
  refine wl_v rfl (val_len es_24 (lk rfl)) ?_
  refine wl_v rfl (val_move lkc) ?_
  refine wl_nil ?_
  refine px_then ?_
  refine wc_block ?_
  refine wc_trim (l' := [(0, _), (1, _), (2, _), (6, _), (7, _), (12, _), (13, _), (14, _)]) ⟨rfl, rfl, rfl, rfl, rfl, rfl, rfl, rfl, trivial⟩ ?_
  refine wc_loop0 (X := Nat) (fun k => k ≤ rs.length) (fun k => [(7, (true, .int .i64 (topU rs net sid k))), (14, (true, .int .i64 (k : Nat)))]) (fun k => rs.length - k) 0 (Nat.zero_le _) ⟨rfl, rfl, rfl, rfl, rfl, rfl, rfl, rfl, rfl, rfl, trivial⟩ ?_
  intro k hk
  refine wc_seq ?_
  refine wc_region ?_
  refine wl_v rfl (val_lss (lk rfl) (lk rfl)) ?_
  refine wl_nil ?_
  refine px_then ?_
  refine wc_seq ?_
  refine wc_cond (lk rfl) (fun hc0 => ?_) (fun hc0 => ?_)
  · have hlt : k < rs.length := by have := of_decide_eq_true hc0; omega
    refine wc_skip ?_
    refine px_then ?_
    refine wc_seq ?_
    refine wc_block ?_
    refine wc_seq ?_
    refine wc_region ?_
    refine wl_v rfl (val_index es_24 (lk rfl) (lk rfl) (fun hG => hs.hd encU_len (by decide) (i := k) hlt) (fun hG => hlt)) ?_
    refine wl_v rfl (val_loadN ag_31 (lk rfl) rfl (hs.rec_ rfl encU_len d0U (fun _ => hlt))) ?_
    refine wl_alloc zc_31 rfl fun b1 => ?_
    refine wl_storeB 0 rfl (lk rfl) (lk rfl) ag_31 rfl rfl ?_
    refine wl_nil ?_
    refine px_then ?_
    refine wc_seq ?_
    refine wc_region ?_
    refine wl_v rfl (val_field fo_31_0 (lk rfl)) ?_
    refine wl_v rfl (val_load1 t1_3 (lk rfl) (cell_own (.head _) fun _ => rfl)) ?_
    refine wl_v rfl (val_move (lk rfl)) ?_
    refine wl_v rfl (val_eql (lk rfl) (lk rfl)) ?_
    refine wl_v rfl (val_move (lk rfl)) ?_
    refine wl_val (gd_t rfl rfl rfl) rfl (val_field fo_31_1 (lk rfl)) ?_
    refine wl_val (gd_t rfl rfl rfl) rfl (val_load1 t1_3 (lkg rfl) (cell_own (.head _) fun _ => rfl)) ?_
    refine wl_val (gd_t rfl rfl rfl) rfl (val_move (lk rfl)) ?_
    refine wl_val (gd_t rfl rfl rfl) rfl (val_eql (lkg rfl) (lkg rfl)) ?_
    refine wl_v rfl (val_and (lk rfl) (lkg rfl)) ?_
    refine wl_nil ?_
    refine px_then ?_
    refine wc_cond (lk rfl) (fun hc1 => ?_) (fun hc1 => ?_)
    · refine wc_region ?_
      refine wl_v rfl (val_move (lk rfl)) ?_
      refine wl_v rfl (val_field fo_31_2 (lk rfl)) ?_
      refine wl_v rfl (val_load1 t1_3 (lk rfl) (cell_own (.head _) fun _ => rfl)) ?_
      refine wl_call gd_none rfl ci_47 (args2 (lk rfl) (lk rfl)) (fun hG w1 hw => Max_c _ _ w1) ?_
      refine wl_v rfl (val_assign (lk rfl)) ?_
      refine wl_nil ?_
      refine px_block ?_
      refine px_then ?_
      refine wc_region ?_
      refine wl_v rfl (val_inc (lk rfl) (by omega)) ?_
      refine wl_v rfl (val_move (lk rfl)) ?_
      refine wl_nil ?_
      refine px_round0 (k + 1) (by omega) (by omega) (⟨slotI (by simp [topU, hc1]), rfl, rfl, rfl, rfl, rfl, slotI (by simp [topU, hc1]), rfl, rfl, rfl, trivial⟩) (fun _ h => h.dropN 1 rfl)
    refine wc_skip ?_
    refine px_block ?_
    refine px_then ?_
    refine wc_region ?_
    refine wl_v rfl (val_inc (lk rfl) (by omega)) ?_
    refine wl_v rfl (val_move (lk rfl)) ?_
    refine wl_nil ?_
    refine px_round0 (k + 1) (by omega) (by omega) (⟨slotI (by simp [topU, hc1]), rfl, rfl, rfl, rfl, rfl, slotI (by simp [topU, hc1]), rfl, rfl, rfl, trivial⟩) (fun _ h => h.dropN 1 rfl)
  have hge : k = rs.length := by have := of_decide_eq_false hc0; omega
  subst hge
  refine wc_exit ?_
  refine px_then_exit ?_
  refine px_then_exit ?_
  refine px_block_exit ?_
  refine px_then ?_
  refine wc_seq ?_
  refine wc_region ?_
  refine wl_v rfl (val_move (lk rfl)) ?_
  refine wl_call gd_none rfl ci_46 (args2 (lk rfl) lkc) (fun hG w1 hw => (Min_c _ _ w1).mono fun e w2 h => ⟨h.1.trans (by rw [most_top]), h.2⟩) ?_
  refine wl_v rfl (val_assign (lk rfl)) ?_
  refine wl_nil ?_
  refine px_then ?_
  refine wc_seq ?_
  refine wc_region ?_
  refine wl_bslice parts0 bsl_44_0_ rfl fun b2 => ?_
  refine wl_v rfl (val_assign (lk rfl)) ?_
  refine wl_nil ?_
  refine px_then ?_
  refine wc_seq ?_
  refine wc_seq ?_
  refine wc_region ?_
  refine wl_v rfl (val_assign lkc) ?_
  refine wl_nil ?_
  refine px_then ?_
  refine wc_block ?_
  refine wc_trim (l' := [(0, _), (1, _), (2, _), (6, _), (7, _), (10, _), (11, _)]) ⟨rfl, rfl, rfl, rfl, rfl, rfl, rfl, trivial⟩ ?_
  refine wc_loopl (X := Nat × Nat × Nat × List Value) (fun x => x.1 ≤ 100000 ∧ missR rs net sid (100000 - x.1) x.1 = missU rs net sid ∧ (flat encI (missN rs net sid x.1) ++ x.2.2.2).length = x.2.2.1 * 1 ∧ x.2.2.1 ≤ 9223372036854775807) (fun x => [(10, (true, .slice (some ⟨x.2.1, 0, none⟩) (missN rs net sid x.1).length x.2.2.1)), (11, (true, .int .i64 ((1 + x.1 : Nat) : Int)))]) (fun x => [⟨x.2.1, true, 3, flat encI (missN rs net sid x.1) ++ x.2.2.2⟩]) (fun x => 100000 - x.1) (0, b2, 0, []) (⟨Nat.zero_le _, rfl, rfl, Nat.zero_le _⟩) ⟨rfl, rfl, rfl, rfl, rfl, rfl, rfl, rfl, rfl, trivial⟩ (fun _ h => h) ?_
  rintro ⟨k, gb, gc, gs⟩ ⟨hk, hR, hgl, hgc⟩
  refine wc_seq ?_
  refine wc_seq ?_
  refine wc_region ?_
  refine wl_v rfl (val_move (lk rfl)) ?_
  refine wl_v rfl (val_move (lk rfl)) ?_
  refine wl_v rfl (val_lss (lk rfl) (lk rfl)) ?_
  refine wl_v rfl (val_move (lk rfl)) ?_
  refine wl_val (gd_t rfl rfl rfl) rfl (val_move (lk rfl)) ?_
  refine wl_val (gd_t rfl rfl rfl) rfl (val_len es_44 (lkg rfl)) ?_
  refine wl_val (gd_t rfl rfl rfl) rfl (val_lss (lkg rfl) lkc) ?_
  refine wl_v rfl (val_and (lk rfl) (lkg rfl)) ?_
  refine wl_nil ?_
  refine px_then ?_
  refine wc_cond (lk rfl) (fun hc2 => ?_) (fun hc2 => ?_)
  · have hmc : missC rs net sid k = true := hc2
    have hlt : k < 100000 := by have h1 := of_decide_eq_true (Bool.and_eq_true _ _ ▸ hmc : _ ∧ _).1; have := most_le rs net sid rs.length; omega
    have hdk := missN_len rs net sid k
    have hR2 : missR rs net sid (100000 - (k + 1)) (k + 1) = missU rs net sid := by rw [← hR, show 100000 - k = (100000 - (k + 1)) + 1 by omega, missR, if_pos hmc]
    refine wc_skip ?_
    refine px_then ?_
    refine wc_seq ?_
    refine wc_block ?_
    refine wc_seq ?_
    refine wc_region ?_
    refine wl_v rfl (val_move (lk rfl)) ?_
    refine wl_v rfl (val_move (lk rfl)) ?_
    refine wl_v rfl (val_move (lk rfl)) ?_
    refine wl_v rfl (val_move (lk rfl)) ?_
    refine wl_v rfl (val_buildP (partsC (lk rfl) (partsC (lk rfl) (partsC (lk rfl) parts0))) (bl_31_0_1_2 _ _ _)) ?_
    refine wl_call gd_none rfl ci_13 (args2 (lk rfl) (lk rfl)) (fun hG w1 hw => FindU_c rs _ _ _ _ ⟨net, sid, ((1 + k : Nat) : Int), 0⟩ w1 (hs.hp hw rfl) (by omega)) ?_
    refine wl_v rfl (val_lss (lk rfl) lkc) ?_
    refine wl_nil ?_
    refine px_then ?_
    refine wc_cond (lk rfl) (fun hc3 => ?_) (fun hc3 => ?_)
    · have hst : missN rs net sid (k + 1) = missN rs net sid k ++ [((1 + k : Nat) : Int)] := by rw [missN, if_pos (of_decide_eq_true hc3)]
      refine wc_region ?_
      refine wl_v rfl (val_move (lk rfl)) ?_
      refine wl_v rfl (val_move (lk rfl)) ?_
      refine wl_bslice (partsC (lk rfl) parts0) (bsl_44_1_0 _) rfl fun b3 => ?_
      refine wl_appendR encI_len (by decide) (missN rs net sid k) [((1 + k : Nat) : Int)] 1 es_44 zc_3 rfl eb_3 (lk rfl) rfl hgl hgc (lk rfl) (fun _ hw => Sl.own' (vs := flat encI [((1 + k : Nat) : Int)]) hw (.head _)) (by first | omega | (simp only [List.length_nil]; omega) | (simp only [List.length_cons, List.length_nil]; omega)) (by first | omega | (simp only [List.length_nil]; omega) | (simp only [List.length_cons, List.length_nil]; omega)) rfl fun a56 ac56 as56 hal56 ham56 => ?_
      refine wl_v rfl (val_assign (lk rfl)) ?_
      refine wl_nil ?_
      refine px_block ?_
      refine px_then ?_
      refine wc_region ?_
      refine wl_v rfl (val_move (lk rfl)) ?_
      refine wl_v rfl (val_inc (lk rfl) (by omega)) ?_
      refine wl_v rfl (val_assign (lk rfl)) ?_
      refine wl_nil ?_
      refine px_round ((k + 1, a56, ac56, as56)) (⟨by show k + 1 ≤ _; omega, hR2, by show (flat encI (missN rs net sid (k + 1)) ++ _).length = _; rw [hst]; exact hal56, ham56⟩) (by show 100000 - (k + 1) < 100000 - k; omega) (⟨slotS (congrArg List.length hst.symm), slotN (by show 1 + k + 1 = 1 + (k + 1); omega), rfl, rfl, rfl, rfl, rfl, slotS (congrArg List.length hst.symm), slotN (by show 1 + k + 1 = 1 + (k + 1); omega), trivial⟩) (fun w1 h => by
        have h2 := h.mask [true, false] rfl
        show HP w [⟨_, true, 3, flat encI (missN rs net sid (k + 1)) ++ _⟩] w1
        rw [hst]
        exact h2)
    have hst : missN rs net sid (k + 1) = missN rs net sid k := by rw [missN, if_neg (of_decide_eq_false hc3)]
    refine wc_skip ?_
    refine px_block ?_
    refine px_then ?_
    refine wc_region ?_
    refine wl_v rfl (val_move (lk rfl)) ?_
    refine wl_v rfl (val_inc (lk rfl) (by omega)) ?_
    refine wl_v rfl (val_assign (lk rfl)) ?_
    refine wl_nil ?_
    refine px_round ((k + 1, gb, gc, gs)) (⟨by show k + 1 ≤ _; omega, hR2, by show (flat encI (missN rs net sid (k + 1)) ++ _).length = _; rw [hst]; exact hgl, hgc⟩) (by show 100000 - (k + 1) < 100000 - k; omega) (⟨slotS (congrArg List.length hst.symm), slotN (by show 1 + k + 1 = 1 + (k + 1); omega), rfl, rfl, rfl, rfl, rfl, slotS (congrArg List.length hst.symm), slotN (by show 1 + k + 1 = 1 + (k + 1); omega), trivial⟩) (fun w1 h => by
      have h2 := h.mask [true] rfl
      show HP w [⟨_, true, 3, flat encI (missN rs net sid (k + 1)) ++ _⟩] w1
      rw [hst]
      exact h2)
  have hmc : missC rs net sid k = false := hc2
  have hfin : missN rs net sid k = missU rs net sid := by rw [← hR, missR_stop hmc]
  refine wc_exit ?_
  refine px_then_exit ?_
  refine px_then_exit ?_
  refine px_block_exit ?_
  refine px_then ?_
  refine wc_seq ?_
  refine wc_region ?_
  refine wl_v rfl (val_move (lk rfl)) ?_
  refine wl_v rfl (val_assign (lk rfl)) ?_
  refine wl_nil ?_
  refine px_then ?_
  refine wc_ret ?_
  refine fin1 rfl (res_tmp rfl) (fun w1 hw => ?_)
  show ∃ x : Nat × Nat × List Value, _
  rw [← hfin]
  exact ⟨(gb, gc, gs), ⟨hgl, hgc⟩, rfl, hw.mask [true] rfl⟩

end Go.Proofs.Ytcdinidpclmmeaa
