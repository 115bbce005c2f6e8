/- Accounts: what the laws themselves do with them, walked. -/
import Derived.Test.YtdiojflamjppmaaSxM
import Derived.Test.YtdiojflamjppmaaSxG
namespace Go.Proofs.Ytdiojflamjppmaa
open Go.RowKit


theorem HP.nil_app {w0 w : World} {bs : List Blk} (h : HP w0 ([] ++ bs) w) : HP w0 bs w := h

theorem toResS_c (rs : List (Int × Int)) (A : Option Addr) (b o c : Nat) (w : World) (hs : Sl w A b o (flat encR rs)) (hl : rs.length ≤ 1048576) :
    Calls Try.prog 54 #[.slice A rs.length c] w fun e w' => ∃ x : Nat × Nat × List Value, ((flat encR (rs) ++ x.2.2).length = x.2.1 * 2 ∧ x.2.1 ≤ 9223372036854775807) ∧ e = .returned (.slice (some ⟨x.1, 0, none⟩) (rs).length x.2.1) ∧ HP w [⟨x.1, true, 71, flat encR (rs) ++ x.2.2⟩] w' := by
  refine calls_entry [] _ Try.func54 rfl Try.ntmps54 (HP.refl w) (env1 rfl) ?_
  refine wc_seq ?_
  refine wc_region ?_
  refine wl_v rfl (val_assign lkc) ?_
  refine wl_nil ?_
  refine px_then ?_
  refine wc_seq ?_
  refine wc_region ?_
  refine wl_v rfl (val_move (lk rfl)) ?_
  refine wl_v rfl (val_len es_22 (lk rfl)) ?_
  refine wl_make es_26 zc_71 eb_71 (by omega) (by omega) (lk rfl) (lk rfl) rfl fun b1 csb1 hcsb1 => ?_
  refine wl_v rfl (val_assign (lk rfl)) ?_
  refine wl_nil ?_
  refine px_then ?_
  refine wc_seq ?_
  refine wc_seq ?_
  refine wc_region ?_
  refine wl_v rfl (val_assign lkc) ?_
  refine wl_nil ?_
  refine px_then ?_
  refine wc_block ?_
  refine wc_trim (l' := [(0, _), (2, _), (3, _), (4, _)]) ⟨rfl, rfl, rfl, rfl, trivial⟩ ?_
  refine wc_loopl (X := Nat) (fun k => k ≤ rs.length) (fun k => [(4, (true, .int .i64 (k : Nat)))]) (fun k => [⟨b1, true, 71, flat encR (rs.take k) ++ csb1.drop (k * 2)⟩]) (fun k => rs.length - k) 0 (Nat.zero_le _) ⟨rfl, rfl, rfl, rfl, rfl, trivial⟩ (fun _ h => by simpa [flat] using h) ?_
  intro k hk
  refine wc_seq ?_
  refine wc_seq ?_
  refine wc_region ?_
  refine wl_v rfl (val_move (lk rfl)) ?_
  refine wl_v rfl (val_move (lk rfl)) ?_
  refine wl_v rfl (val_len es_22 (lk rfl)) ?_
  refine wl_v rfl (val_lss (lk rfl) (lk rfl)) ?_
  refine wl_nil ?_
  refine px_then ?_
  refine wc_cond (lk rfl) (fun hc0 => ?_) (fun hc0 => ?_)
  · have hlt : k < rs.length := by have := of_decide_eq_true hc0; omega
    refine wc_skip ?_
    refine px_then ?_
    refine wc_seq ?_
    refine wc_block ?_
    refine wc_region ?_
    refine wl_v rfl (val_move (lk rfl)) ?_
    refine wl_v rfl (val_move (lk rfl)) ?_
    refine wl_v rfl (val_move (lk rfl)) ?_
    refine wl_v rfl (val_move (lk rfl)) ?_
    refine wl_v rfl (val_index es_22 (lk rfl) (lk rfl) (fun hG => hs.hd encR_len (by decide) (i := k) hlt) (fun hG => hlt)) ?_
    refine wl_v rfl (val_loadN ag_86 (lk rfl) rfl (hs.rec_ rfl encR_len d0R (fun _ => hlt))) ?_
    refine wl_call gd_none rfl ci_75 (args1 (lk rfl)) (fun hG w1 hw => toRes_c _ w1) ?_
    refine wl_v rfl (val_index es_26 (lk rfl) (lk rfl) (fun hG => rfl) (fun hG => hlt)) ?_
    refine wl_storeN 0 ag_71 (lk rfl) (lk rfl) rfl rfl rfl (by have := fill_len encR_len rs csb1 k (by omega) hcsb1; omega) ?_
    refine wl_nil ?_
    refine px_block ?_
    refine px_then ?_
    refine wc_region ?_
    refine wl_v rfl (val_move (lk rfl)) ?_
    refine wl_v rfl (val_inc (lk rfl) (by omega)) ?_
    refine wl_v rfl (val_assign (lk rfl)) ?_
    refine wl_nil ?_
    have hfs := fill_step encR_len d0R rs csb1 k hlt
    refine px_round (k + 1) (by omega) (by omega) (⟨rfl, rfl, rfl, rfl, rfl, trivial⟩) (fun w1 h => by
      have h' := h.dropN 0 rfl
      simp only [List.drop_zero, List.set_cons_zero, Nat.zero_add] at h'
      rw [hfs] at h'
      exact h')
  have hge : k = rs.length := by have := of_decide_eq_false hc0; omega
  subst hge
  refine wc_exit ?_
  refine px_then_exit ?_
  refine px_then_exit ?_
  refine px_block_exit ?_
  refine px_then ?_
  refine wc_seq ?_
  refine wc_region ?_
  refine wl_v rfl (val_move (lk rfl)) ?_
  refine wl_v rfl (val_assign (lk rfl)) ?_
  refine wl_nil ?_
  refine px_then ?_
  refine wc_ret ?_
  refine fin1 rfl (res_tmp rfl) (fun w1 hw => ?_)
  exact ⟨(b1, rs.length, []), ⟨by rw [List.append_nil, flat_len encR_len], by show rs.length ≤ _; omega⟩, rfl, by
    have h' := hw.dropN 0 rfl
    simpa [List.drop_of_length_le (Nat.le_of_eq hcsb1)] using h'⟩

theorem toAcc_c (a : Acc) (A : Option Addr) (b o c : Nat) (w : World) (hs : Sl w A b o (flat encR a.res)) (hl : a.res.length ≤ 1048576) :
    Calls Try.prog 15 #[a.val A c] w fun e w' => ∃ x : Nat × Nat × List Value, ((flat encR (a).res ++ x.2.2).length = x.2.1 * 2 ∧ x.2.1 ≤ 9223372036854775807) ∧ e = .returned ((a).val (some ⟨x.1, 0, none⟩) x.2.1) ∧ HP w [⟨x.1, true, 71, flat encR (a).res ++ x.2.2⟩] w' := by
  refine calls_entry [] _ Try.func15 rfl Try.ntmps15 (HP.refl w) (env1 rfl) ?_
  refine wc_seq ?_
  refine wc_region ?_
  refine wl_box (lk rfl) rfl fun b1 => ?_
  refine wl_alloc zc_28 rfl fun b2 => ?_
  refine wl_nil ?_
  refine px_then ?_
  refine wc_seq ?_
  refine wc_region ?_
  refine wl_alloc zc_28 rfl fun b3 => ?_
  refine wl_nil ?_
  refine px_then ?_
  refine wc_seq ?_
  refine wc_region ?_
  refine wl_v rfl (val_field fo_24_0 (lk rfl)) ?_
  refine wl_v rfl (val_load1 t1_3 (lk rfl) (cell_own (.tail _ (.tail _ (.head _))) fun _ => rfl)) ?_
  refine wl_v rfl (val_field fo_28_0 (lk rfl)) ?_
  refine wl_store1 0 rfl (lk rfl) (lk rfl) t1_3 rfl (rfl) ?_
  refine wl_nil ?_
  refine px_then ?_
  refine wc_seq ?_
  refine wc_region ?_
  refine wl_v rfl (val_field fo_24_1 (lk rfl)) ?_
  refine wl_v rfl (val_load1 t1_3 (lk rfl) (cell_own (.tail _ (.tail _ (.head _))) fun _ => rfl)) ?_
  refine wl_v rfl (val_field fo_28_1 (lk rfl)) ?_
  refine wl_store1 0 rfl (lk rfl) (lk rfl) t1_3 rfl (rfl) ?_
  refine wl_nil ?_
  refine px_then ?_
  refine wc_seq ?_
  refine wc_region ?_
  refine wl_v rfl (val_field fo_24_2 (lk rfl)) ?_
  refine wl_v rfl (val_load1 t1_3 (lk rfl) (cell_own (.tail _ (.tail _ (.head _))) fun _ => rfl)) ?_
  refine wl_v rfl (val_field fo_28_2 (lk rfl)) ?_
  refine wl_store1 0 rfl (lk rfl) (lk rfl) t1_3 rfl (rfl) ?_
  refine wl_nil ?_
  refine px_then ?_
  refine wc_seq ?_
  refine wc_region ?_
  refine wl_v rfl (val_field fo_24_3 (lk rfl)) ?_
  refine wl_v rfl (val_load1 t1_22 (lk rfl) (cell_own (.tail _ (.tail _ (.head _))) fun _ => rfl)) ?_
  refine wl_callx rfl ci_54 (args1 (lk rfl)) (fun w1 hw => toResS_c a.res _ _ _ _ w1 (hs.hp hw rfl) hl) (fun _ => rfl) ?_
  rintro ⟨gb15, gc15, gs15⟩ ⟨hgl15, hgc15⟩
  refine wl_v rfl (val_field fo_28_3 (lk rfl)) ?_
  refine wl_store1 1 rfl (lk rfl) (lk rfl) t1_26 rfl (rfl) ?_
  refine wl_nil ?_
  refine px_then ?_
  refine wc_seq ?_
  refine wc_region ?_
  refine wl_v rfl (val_loadB (.tail _ (.head _)) (lk rfl) ag_28) ?_
  refine wl_storeB 2 rfl (lk rfl) (lk rfl) ag_28 rfl rfl ?_
  refine wl_nil ?_
  refine px_then ?_
  refine wc_ret ?_
  refine fin1 rfl (res_cell rfl (.tail _ (.tail _ (.head _))) ag_28) (fun w1 hw => ?_)
  exact ⟨(gb15, gc15, gs15), ⟨hgl15, hgc15⟩, rfl, hw.mask [true, false, false, false] rfl⟩

theorem eqResS_c (xs ys : List (Int × Int)) (A B : Option Addr) (b o c b2 o2 c2 : Nat) (w : World) (hs : Sl w A b o (flat encR xs)) (hs2 : Sl w B b2 o2 (flat encR ys)) (hl : xs.length ≤ 9223372036854775806) :
    Calls Try.prog 58 #[.slice A xs.length c, .slice B ys.length c2] w fun e w' => e = .returned (.bool (eqRows eqR xs ys)) ∧ HP w [] w' := by
  refine calls_entry [] _ Try.func58 rfl Try.ntmps58 (HP.refl w) (env2 rfl) ?_
  refine wc_seq ?_
  refine wc_region ?_
  refine wl_v rfl (val_assign lkc) ?_
  refine wl_nil ?_
  refine px_then ?_
  refine wc_seq ?_
  refine wc_seq ?_
  refine wc_region ?_
  refine wl_v rfl (val_move (lk rfl)) ?_
  refine wl_v rfl (val_len es_26 (lk rfl)) ?_
  refine wl_v rfl (val_move (lk rfl)) ?_
  refine wl_v rfl (val_len es_26 (lk rfl)) ?_
  refine wl_v rfl (val_neq (lk rfl) (lk rfl)) ?_
  refine wl_nil ?_
  refine px_then ?_
  refine wc_cond (lk rfl) (fun hc0 => ?_) (fun hc0 => ?_)
  · refine wc_seq ?_
    refine wc_region ?_
    refine wl_v rfl (val_assign lkc) ?_
    refine wl_nil ?_
    refine px_then ?_
    refine wc_ret ?_
    refine px_then_ret ?_
    refine fin1 rfl (res_tmp rfl) (fun w1 hw => ?_)
    exact ⟨by rw [eqRows_ne (cast_ne' hc0)], hw.drop rfl⟩
  have hxy : xs.length = ys.length := cast_ne hc0
  refine wc_skip ?_
  refine px_then ?_
  refine wc_seq ?_
  refine wc_seq ?_
  refine wc_region ?_
  refine wl_v rfl (val_assign lkc) ?_
  refine wl_nil ?_
  refine px_then ?_
  refine wc_block ?_
  refine wc_trim (l' := [(0, _), (1, _), (4, _), (5, _)]) ⟨rfl, rfl, rfl, rfl, trivial⟩ ?_
  refine wc_loop0 (X := Nat) (fun k => k ≤ xs.length ∧ eqRows eqR (xs.drop k) (ys.drop k) = eqRows eqR xs ys) (fun k => [(5, (true, .int .i64 (k : Nat)))]) (fun k => xs.length - k) 0 (⟨Nat.zero_le _, rfl⟩) ⟨rfl, rfl, rfl, rfl, rfl, trivial⟩ ?_
  rintro k ⟨hk, ht⟩
  refine wc_seq ?_
  refine wc_seq ?_
  refine wc_region ?_
  refine wl_v rfl (val_move (lk rfl)) ?_
  refine wl_v rfl (val_move (lk rfl)) ?_
  refine wl_v rfl (val_len es_26 (lk rfl)) ?_
  refine wl_v rfl (val_lss (lk rfl) (lk rfl)) ?_
  refine wl_nil ?_
  refine px_then ?_
  refine wc_cond (lk rfl) (fun hc1 => ?_) (fun hc1 => ?_)
  · have hlt : k < xs.length := by have := of_decide_eq_true hc1; omega
    refine wc_skip ?_
    refine px_then ?_
    refine wc_seq ?_
    refine wc_block ?_
    refine wc_seq ?_
    refine wc_region_q mo_ (by kernel_rfl) ?_
    refine wq_v rfl (val_move (lk rfl)) ?_
    refine wq_v rfl (val_move (lk rfl)) ?_
    refine wq_v rfl (val_index es_26 (lk rfl) (lk rfl) (fun hG => hs.hd encR_len (by decide) (i := k) hlt) (fun hG => hlt)) ?_
    refine wq_v rfl (val_loadN ag_71 (lk rfl) rfl (hs.rec_ rfl encR_len d0R (fun _ => hlt))) ?_
    refine wq_v rfl (val_move (lk rfl)) ?_
    refine wq_v rfl (val_move (lk rfl)) ?_
    refine wq_v rfl (val_index es_26 (lk rfl) (lk rfl) (fun hG => hs2.hd encR_len (by decide) (i := k) (by omega)) (fun hG => by omega)) ?_
    refine wq_v rfl (val_loadN ag_71 (lk rfl) rfl (hs2.rec_ rfl encR_len d0R (fun _ => by omega))) ?_
    refine wq_call gd_none rfl ci_77 (args2 (lk rfl) (lk rfl)) (fun hG w1 hw => eqRes_c _ _ w1) ?_
    refine wq_v rfl (val_not (lk rfl)) ?_
    refine wq_nil ?_
    refine px_then ?_
    refine wc_cond (lk rfl) (fun hc2 => ?_) (fun hc2 => ?_)
    · refine wc_seq ?_
      refine wc_region ?_
      refine wl_v rfl (val_assign lkc) ?_
      refine wl_nil ?_
      refine px_then ?_
      refine wc_ret ?_
      refine px_block_ret ?_
      refine px_then_ret ?_
      refine px_then_ret ?_
      refine px_block_ret ?_
      refine px_then_ret ?_
      refine fin1 rfl (res_tmp rfl) (fun w1 hw => ?_)
      exact ⟨by rw [← ht, eqRows_step (d := d0R) hlt (by omega)]; simp at hc2; rw [hc2]; rfl, hw.drop rfl⟩
    refine wc_skip ?_
    refine px_block ?_
    refine px_then ?_
    refine wc_region ?_
    refine wl_v rfl (val_move (lk rfl)) ?_
    refine wl_v rfl (val_inc (lk rfl) (by omega)) ?_
    refine wl_v rfl (val_assign (lk rfl)) ?_
    refine wl_nil ?_
    refine px_round0 (k + 1) (⟨by omega, by rw [← ht, eqRows_step (d := d0R) hlt (by omega)]; simp at hc2; rw [hc2]; rfl⟩) (by omega) (⟨rfl, rfl, rfl, rfl, rfl, trivial⟩) (fun _ h => h.dropN 0 rfl)
  have hge : k = xs.length := by have := of_decide_eq_false hc1; omega
  subst hge
  refine wc_exit ?_
  refine px_then_exit ?_
  refine px_then_exit ?_
  refine px_block_exit ?_
  refine px_then ?_
  refine wc_seq ?_
  refine wc_region ?_
  refine wl_v rfl (val_assign lkc) ?_
  refine wl_nil ?_
  refine px_then ?_
  refine wc_ret ?_
  refine fin1 rfl (res_tmp rfl) (fun w1 hw => ?_)
  have e1 : xs.drop xs.length = [] := by simp
  have e2 : ys.drop xs.length = [] := by simp [hxy]
  exact ⟨by rw [← ht, e1, e2]; rfl, hw.drop rfl⟩

theorem eqAcc_c (a a2 : Acc) (A B : Option Addr) (b o c b2 o2 c2 : Nat) (w : World) (hs : Sl w A b o (flat encR a.res)) (hs2 : Sl w B b2 o2 (flat encR a2.res)) (hl : a.res.length ≤ 9223372036854775806) :
    Calls Try.prog 17 #[a.val A c, a2.val B c2] w fun e w' => e = .returned (.bool (a.eqb a2)) ∧ HP w [] w' := by
  refine calls_entry [] _ Try.func17 rfl Try.ntmps17 (HP.refl w) (env2 rfl) ?_
  refine wc_seq ?_
  refine wc_region ?_
  refine wl_box (lk rfl) rfl fun b1 => ?_
  refine wl_box (lk rfl) rfl fun b2 => ?_
  refine wl_v rfl (val_assign lkc) ?_
  refine wl_nil ?_
  refine px_then ?_
  refine wc_seq ?_
  refine wc_seq ?_
  refine wc_region ?_
  refine wl_v rfl (val_field fo_28_0 (lk rfl)) ?_
  refine wl_v rfl (val_load1 t1_3 (lk rfl) (cell_own (.tail _ (.head _)) fun _ => rfl)) ?_
  refine wl_v rfl (val_field fo_28_0 (lk rfl)) ?_
  refine wl_v rfl (val_load1 t1_3 (lk rfl) (cell_own (.head _) fun _ => rfl)) ?_
  refine wl_v rfl (val_neq (lk rfl) (lk rfl)) ?_
  refine wl_nil ?_
  refine px_then ?_
  refine wc_cond (lk rfl) (fun hc0 => ?_) (fun hc0 => ?_)
  · refine wc_seq ?_
    refine wc_region ?_
    refine wl_v rfl (val_assign lkc) ?_
    refine wl_nil ?_
    refine px_then ?_
    refine wc_ret ?_
    refine px_then_ret ?_
    refine fin1 rfl (res_tmp rfl) (fun w1 hw => ?_)
    exact ⟨by simp_all [Acc.eqb], hw.drop rfl⟩
  refine wc_skip ?_
  refine px_then ?_
  refine wc_seq ?_
  refine wc_seq ?_
  refine wc_region ?_
  refine wl_v rfl (val_field fo_28_1 (lk rfl)) ?_
  refine wl_v rfl (val_load1 t1_3 (lk rfl) (cell_own (.tail _ (.head _)) fun _ => rfl)) ?_
  refine wl_v rfl (val_field fo_28_1 (lk rfl)) ?_
  refine wl_v rfl (val_load1 t1_3 (lk rfl) (cell_own (.head _) fun _ => rfl)) ?_
  refine wl_v rfl (val_neq (lk rfl) (lk rfl)) ?_
  refine wl_nil ?_
  refine px_then ?_
  refine wc_cond (lk rfl) (fun hc1 => ?_) (fun hc1 => ?_)
  · refine wc_seq ?_
    refine wc_region ?_
    refine wl_v rfl (val_assign lkc) ?_
    refine wl_nil ?_
    refine px_then ?_
    refine wc_ret ?_
    refine px_then_ret ?_
    refine fin1 rfl (res_tmp rfl) (fun w1 hw => ?_)
    exact ⟨by simp_all [Acc.eqb], hw.drop rfl⟩
  refine wc_skip ?_
  refine px_then ?_
  refine wc_seq ?_
  refine wc_seq ?_
  refine wc_region ?_
  refine wl_v rfl (val_field fo_28_2 (lk rfl)) ?_
  refine wl_v rfl (val_load1 t1_3 (lk rfl) (cell_own (.tail _ (.head _)) fun _ => rfl)) ?_
  refine wl_v rfl (val_field fo_28_2 (lk rfl)) ?_
  refine wl_v rfl (val_load1 t1_3 (lk rfl) (cell_own (.head _) fun _ => rfl)) ?_
  refine wl_v rfl (val_neq (lk rfl) (lk rfl)) ?_
  refine wl_nil ?_
  refine px_then ?_
  refine wc_cond (lk rfl) (fun hc2 => ?_) (fun hc2 => ?_)
  · refine wc_seq ?_
    refine wc_region ?_
    refine wl_v rfl (val_assign lkc) ?_
    refine wl_nil ?_
    refine px_then ?_
    refine wc_ret ?_
    refine px_then_ret ?_
    refine fin1 rfl (res_tmp rfl) (fun w1 hw => ?_)
    exact ⟨by simp_all [Acc.eqb], hw.drop rfl⟩
  refine wc_skip ?_
  refine px_then ?_
  refine wc_seq ?_
  refine wc_seq ?_
  refine wc_region ?_
  refine wl_v rfl (val_field fo_28_3 (lk rfl)) ?_
  refine wl_v rfl (val_load1 t1_26 (lk rfl) (cell_own (.tail _ (.head _)) fun _ => rfl)) ?_
  refine wl_v rfl (val_field fo_28_3 (lk rfl)) ?_
  refine wl_v rfl (val_load1 t1_26 (lk rfl) (cell_own (.head _) fun _ => rfl)) ?_
  refine wl_call gd_none rfl ci_58 (args2 (lk rfl) (lk rfl)) (fun hG w1 hw => eqResS_c a.res a2.res _ _ _ _ _ _ _ _ w1 (hs.hp hw rfl) (hs2.hp hw rfl) hl) ?_
  refine wl_v rfl (val_not (lk rfl)) ?_
  refine wl_nil ?_
  refine px_then ?_
  refine wc_cond (lk rfl) (fun hc3 => ?_) (fun hc3 => ?_)
  · refine wc_seq ?_
    refine wc_region ?_
    refine wl_v rfl (val_assign lkc) ?_
    refine wl_nil ?_
    refine px_then ?_
    refine wc_ret ?_
    refine px_then_ret ?_
    refine fin1 rfl (res_tmp rfl) (fun w1 hw => ?_)
    exact ⟨by simp_all [Acc.eqb], hw.drop rfl⟩
  refine wc_skip ?_
  refine px_then ?_
  refine wc_seq ?_
  refine wc_region ?_
  refine wl_v rfl (val_assign lkc) ?_
  refine wl_nil ?_
  refine px_then ?_
  refine wc_ret ?_
  refine fin1 rfl (res_tmp rfl) (fun w1 hw => ?_)
  exact ⟨by simp_all [Acc.eqb], hw.drop rfl⟩

end Go.Proofs.Ytdiojflamjppmaa
