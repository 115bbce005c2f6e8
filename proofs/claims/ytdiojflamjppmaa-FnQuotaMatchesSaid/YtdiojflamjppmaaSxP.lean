/- Accounts: copies, marks and new accounts, walked. -/
import Derived.Test.YtdiojflamjppmaaSxN
import Derived.Test.YtdiojflamjppmaaSxH
namespace Go.Proofs.Ytdiojflamjppmaa
open Go.RowKit

theorem copyReservation_c (rs : List (Int × Int)) (A : Option Addr) (b o c : Nat) (w : World) (hs : Sl w A b o (flat encR rs)) (hl : rs.length ≤ 1048576) :
    Calls Try.prog 76 #[.slice A rs.length c] w fun e w' => ∃ x : Nat × Nat × List Value, ((flat encR (rs) ++ x.2.2).length = x.2.1 * 2 ∧ x.2.1 ≤ 9223372036854775807) ∧ e = .returned (.slice (some ⟨x.1, 0, none⟩) (rs).length x.2.1) ∧ HP w [⟨x.1, true, 71, flat encR (rs) ++ x.2.2⟩] w' := by
  refine calls_entry [] _ Try.func76 rfl Try.ntmps76 (HP.refl w) (env1 rfl) ?_
  refine wc_seq ?_
  refine wc_region ?_
  refine wl_v rfl (val_assign lkc) ?_
  refine wl_nil ?_
  refine px_then ?_
  refine wc_seq ?_
  refine wc_region ?_
  refine wl_v rfl (val_move (lk rfl)) ?_
  refine wl_v rfl (val_len es_26 (lk rfl)) ?_
  refine wl_make es_26 zc_71 eb_71 (by omega) (by omega) (lk rfl) (lk rfl) rfl fun b1 csb1 hcsb1 => ?_
  refine wl_v rfl (val_assign (lk rfl)) ?_
  refine wl_nil ?_
  refine px_then ?_
  refine wc_seq ?_
  refine wc_region ?_
  refine wl_v rfl (val_move (lk rfl)) ?_
  refine wl_v rfl (val_move (lk rfl)) ?_
  refine wl_copy 0 rs.length es_26 (lk rfl) (lk rfl) (by simp) rfl (fun _ hw => hs.hp hw rfl) (flat_len encR_len rs) (by omega) (fun _ h => flat_cell h) rfl ?_
  refine wl_nil ?_
  refine px_then ?_
  refine wc_seq ?_
  refine wc_region ?_
  refine wl_v rfl (val_move (lk rfl)) ?_
  refine wl_v rfl (val_assign (lk rfl)) ?_
  refine wl_nil ?_
  refine px_then ?_
  refine wc_ret ?_
  refine fin1 rfl (res_tmp rfl) (fun w1 hw => ?_)
  exact ⟨(b1, rs.length, []), ⟨by rw [List.append_nil, flat_len encR_len], by show rs.length ≤ _; omega⟩, rfl, by
    have h' := hw.dropN 0 rfl
    simpa [List.drop_of_length_le (Nat.le_of_eq hcsb1)] using h'⟩

theorem markReservationS_c (A : Option Addr) (b n c k0 : Nat) (cs : List Value) (w : World) (hA : 0 < n → A = some ⟨b, 0, none⟩) (hb : w.heap[b]? = some (.cells cs.toArray 71 (0, 0))) (hn : n ≤ 1048600) (hk0 : k0 ≤ 268435456) (hcl : n * 2 ≤ cs.length) :
    Calls Try.prog 59 #[.slice A n c, .int .i64 (k0 : Nat)] w fun e w' => ∃ _ : Unit, True ∧ e = .returned (.int .i64 ((k0 + n * 2 : Nat) : Int)) ∧ HP w [⟨b, false, 71, seqV k0 (n * 2) ++ cs.drop (n * 2)⟩] w' := by
  refine calls_entry [⟨b, false, 71, cs⟩] _ Try.func59 rfl Try.ntmps59 (HP.one hb) (env2 rfl) ?_
  refine wc_seq ?_
  refine wc_region ?_
  refine wl_v rfl (val_assign lkc) ?_
  refine wl_nil ?_
  refine px_then ?_
  refine wc_seq ?_
  refine wc_seq ?_
  refine wc_region ?_
  refine wl_v rfl (val_assign lkc) ?_
  refine wl_nil ?_
  refine px_then ?_
  refine wc_block ?_
  refine wc_trim (l' := [(0, _), (1, _), (4, _), (5, _)]) ⟨rfl, rfl, rfl, rfl, trivial⟩ ?_
  refine wc_loopl (X := Nat) (fun k => k ≤ n) (fun k => [(1, (true, .int .i64 ((k0 + k * 2 : Nat) : Int))), (5, (true, .int .i64 (k : Nat)))]) (fun k => [⟨b, false, 71, seqV k0 (k * 2) ++ cs.drop (k * 2)⟩]) (fun k => n - k) 0 (Nat.zero_le _) ⟨slotN (by omega), rfl, rfl, slotN (by omega), rfl, rfl, trivial⟩ (fun _ h => by simpa [seqV] using h) ?_
  intro k hk
  refine wc_seq ?_
  refine wc_seq ?_
  refine wc_region ?_
  refine wl_v rfl (val_move (lk rfl)) ?_
  refine wl_v rfl (val_move (lk rfl)) ?_
  refine wl_v rfl (val_len es_26 (lk rfl)) ?_
  refine wl_v rfl (val_lss (lk rfl) (lk rfl)) ?_
  refine wl_nil ?_
  refine px_then ?_
  refine wc_cond (lk rfl) (fun hc0 => ?_) (fun hc0 => ?_)
  · have hlt : k < n := by have := of_decide_eq_true hc0; omega
    refine wc_skip ?_
    refine px_then ?_
    refine wc_seq ?_
    refine wc_block ?_
    refine wc_seq ?_
    refine wc_region ?_
    refine wl_v rfl (val_move (lk rfl)) ?_
    refine wl_v rfl (val_move (lk rfl)) ?_
    refine wl_v rfl (val_move (lk rfl)) ?_
    refine wl_v rfl (val_index es_26 (lk rfl) (lk rfl) (fun hG => hA (by omega)) (fun hG => hlt)) ?_
    refine wl_v rfl (val_field fo_71_0 (lk rfl)) ?_
    refine wl_storeM 0 rfl (lk rfl) (lk rfl) t1_3 (by omega) (by rfl) (by omega) ?_
    refine wl_nil ?_
    refine px_then ?_
    refine wc_seq ?_
    refine wc_region ?_
    refine wl_v rfl (val_move (lk rfl)) ?_
    refine wl_v rfl (val_inc (lk rfl) (by omega)) ?_
    refine wl_v rfl (val_assign (lk rfl)) ?_
    refine wl_nil ?_
    refine px_then ?_
    refine wc_seq ?_
    refine wc_region ?_
    refine wl_v rfl (val_move (lk rfl)) ?_
    refine wl_v rfl (val_move (lk rfl)) ?_
    refine wl_v rfl (val_move (lk rfl)) ?_
    refine wl_v rfl (val_index es_26 (lk rfl) (lk rfl) (fun hG => hA (by omega)) (fun hG => hlt)) ?_
    refine wl_v rfl (val_field fo_71_1 (lk rfl)) ?_
    refine wl_storeM 0 rfl (lk rfl) (lk rfl) t1_3 (by omega) (by rfl) (by omega) ?_
    refine wl_nil ?_
    refine px_then ?_
    refine wc_region ?_
    refine wl_v rfl (val_move (lk rfl)) ?_
    refine wl_v rfl (val_inc (lk rfl) (by omega)) ?_
    refine wl_v rfl (val_assign (lk rfl)) ?_
    refine wl_nil ?_
    refine px_block ?_
    refine px_then ?_
    refine wc_region ?_
    refine wl_v rfl (val_move (lk rfl)) ?_
    refine wl_v rfl (val_inc (lk rfl) (by omega)) ?_
    refine wl_v rfl (val_assign (lk rfl)) ?_
    refine wl_nil ?_
    have hmk : (k + 1) * 2 = k * 2 + 2 := by omega
    refine px_round (k + 1) (by omega) (by omega) (⟨slotN (by omega), rfl, rfl, slotN (by omega), rfl, rfl, trivial⟩) (fun w1 h => by rw [hmk]; exact h)
  have hge : k = n := by have := of_decide_eq_false hc0; omega
  subst hge
  refine wc_exit ?_
  refine px_then_exit ?_
  refine px_then_exit ?_
  refine px_block_exit ?_
  refine px_then ?_
  refine wc_seq ?_
  refine wc_region ?_
  refine wl_v rfl (val_move (lk rfl)) ?_
  refine wl_v rfl (val_assign (lk rfl)) ?_
  refine wl_nil ?_
  refine px_then ?_
  refine wc_ret ?_
  refine fin1 rfl (res_tmp rfl) (fun w1 hw => ?_)
  exact ⟨(), trivial, rfl, hw⟩

theorem heldReservationS_c (A : Option Addr) (b o n c k0 : Nat) (w : World) (hs : Sl w A b o (seqV k0 (n * 2))) (hn : n ≤ 1048600) (hk0 : k0 ≤ 268435456) :
    Calls Try.prog 60 #[.slice A n c, .int .i64 (k0 : Nat)] w fun e w' => e = .returned (.int .i64 ((k0 + n * 2 : Nat) : Int)) ∧ HP w [] w' := by
  refine calls_entry [] _ Try.func60 rfl Try.ntmps60 (HP.refl w) (env2 rfl) ?_
  refine wc_seq ?_
  refine wc_region ?_
  refine wl_v rfl (val_assign lkc) ?_
  refine wl_nil ?_
  refine px_then ?_
  refine wc_seq ?_
  refine wc_seq ?_
  refine wc_region ?_
  refine wl_v rfl (val_assign lkc) ?_
  refine wl_nil ?_
  refine px_then ?_
  refine wc_block ?_
  refine wc_trim (l' := [(0, _), (1, _), (4, _), (5, _)]) ⟨rfl, rfl, rfl, rfl, trivial⟩ ?_
  refine wc_loop0 (X := Nat) (fun k => k ≤ n) (fun k => [(1, (true, .int .i64 ((k0 + k * 2 : Nat) : Int))), (5, (true, .int .i64 (k : Nat)))]) (fun k => n - k) 0 (Nat.zero_le _) ⟨slotN (by omega), rfl, rfl, slotN (by omega), rfl, rfl, trivial⟩ ?_
  intro k hk
  refine wc_seq ?_
  refine wc_seq ?_
  refine wc_region ?_
  refine wl_v rfl (val_move (lk rfl)) ?_
  refine wl_v rfl (val_move (lk rfl)) ?_
  refine wl_v rfl (val_len es_26 (lk rfl)) ?_
  refine wl_v rfl (val_lss (lk rfl) (lk rfl)) ?_
  refine wl_nil ?_
  refine px_then ?_
  refine wc_cond (lk rfl) (fun hc0 => ?_) (fun hc0 => ?_)
  · have hlt : k < n := by have := of_decide_eq_true hc0; omega
    refine wc_skip ?_
    refine px_then ?_
    refine wc_seq ?_
    refine wc_block ?_
    refine wc_seq ?_
    refine wc_seq ?_
    refine wc_region ?_
    refine wl_v rfl (val_move (lk rfl)) ?_
    refine wl_v rfl (val_move (lk rfl)) ?_
    refine wl_v rfl (val_index es_26 (lk rfl) (lk rfl) (fun hG => hs.seqhd (by omega)) (fun hG => hlt)) ?_
    refine wl_v rfl (val_field fo_71_0 (lk rfl)) ?_
    refine wl_v rfl (val_load1 t1_3 (lk rfl) (cell_old rfl fun _ => hs.seq (j := k * 2 + 0) (by omega) (by omega))) ?_
    refine wl_v rfl (val_move (lk rfl)) ?_
    refine wl_v rfl (val_neq (lk rfl) (lk rfl)) ?_
    refine wl_nil ?_
    refine px_then ?_
    refine wc_cond (lk rfl) (fun hc1 => ?_) (fun hc1 => ?_)
    · (exfalso; revert hc1; simp; try omega)
    refine wc_skip ?_
    refine px_then ?_
    refine wc_seq ?_
    refine wc_region ?_
    refine wl_v rfl (val_move (lk rfl)) ?_
    refine wl_v rfl (val_inc (lk rfl) (by omega)) ?_
    refine wl_v rfl (val_assign (lk rfl)) ?_
    refine wl_nil ?_
    refine px_then ?_
    refine wc_seq ?_
    refine wc_seq ?_
    refine wc_region ?_
    refine wl_v rfl (val_move (lk rfl)) ?_
    refine wl_v rfl (val_move (lk rfl)) ?_
    refine wl_v rfl (val_index es_26 (lk rfl) (lk rfl) (fun hG => hs.seqhd (by omega)) (fun hG => hlt)) ?_
    refine wl_v rfl (val_field fo_71_1 (lk rfl)) ?_
    refine wl_v rfl (val_load1 t1_3 (lk rfl) (cell_old rfl fun _ => hs.seq (j := k * 2 + 1) (by omega) (by omega))) ?_
    refine wl_v rfl (val_move (lk rfl)) ?_
    refine wl_v rfl (val_neq (lk rfl) (lk rfl)) ?_
    refine wl_nil ?_
    refine px_then ?_
    refine wc_cond (lk rfl) (fun hc2 => ?_) (fun hc2 => ?_)
    · (exfalso; revert hc2; simp; try omega)
    refine wc_skip ?_
    refine px_then ?_
    refine wc_region ?_
    refine wl_v rfl (val_move (lk rfl)) ?_
    refine wl_v rfl (val_inc (lk rfl) (by omega)) ?_
    refine wl_v rfl (val_assign (lk rfl)) ?_
    refine wl_nil ?_
    refine px_block ?_
    refine px_then ?_
    refine wc_region ?_
    refine wl_v rfl (val_move (lk rfl)) ?_
    refine wl_v rfl (val_inc (lk rfl) (by omega)) ?_
    refine wl_v rfl (val_assign (lk rfl)) ?_
    refine wl_nil ?_
    refine px_round0 (k + 1) (by omega) (by omega) (⟨slotN (by omega), rfl, rfl, slotN (by omega), rfl, rfl, trivial⟩) (fun _ h => h.dropN 0 rfl)
  have hge : k = n := by have := of_decide_eq_false hc0; omega
  subst hge
  refine wc_exit ?_
  refine px_then_exit ?_
  refine px_then_exit ?_
  refine px_block_exit ?_
  refine px_then ?_
  refine wc_seq ?_
  refine wc_region ?_
  refine wl_v rfl (val_move (lk rfl)) ?_
  refine wl_v rfl (val_assign (lk rfl)) ?_
  refine wl_nil ?_
  refine px_then ?_
  refine wc_ret ?_
  refine fin1 rfl (res_tmp rfl) (fun w1 hw => ?_)
  exact ⟨rfl, hw.drop rfl⟩

theorem copyAcc_c (a : Acc) (A : Option Addr) (b o c : Nat) (w : World) (hs : Sl w A b o (flat encR a.res)) (hl : a.res.length ≤ 1048576) :
    Calls Try.prog 55 #[a.val A c] w fun e w' => ∃ x : Nat × Nat × List Value, ((flat encR (a).res ++ x.2.2).length = x.2.1 * 2 ∧ x.2.1 ≤ 9223372036854775807) ∧ e = .returned ((a).val (some ⟨x.1, 0, none⟩) x.2.1) ∧ HP w [⟨x.1, true, 71, flat encR (a).res ++ x.2.2⟩] w' := by
  refine calls_entry [] _ Try.func55 rfl Try.ntmps55 (HP.refl w) (env1 rfl) ?_
  refine wc_seq ?_
  refine wc_region ?_
  refine wl_box (lk rfl) rfl fun b1 => ?_
  refine wl_alloc zc_28 rfl fun b2 => ?_
  refine wl_nil ?_
  refine px_then ?_
  refine wc_seq ?_
  refine wc_region ?_
  refine wl_v rfl (val_field fo_28_3 (lk rfl)) ?_
  refine wl_v rfl (val_load1 t1_26 (lk rfl) (cell_own (.tail _ (.head _)) fun _ => rfl)) ?_
  refine wl_callx rfl ci_76 (args1 (lk rfl)) (fun w1 hw => copyReservation_c a.res _ _ _ _ w1 (hs.hp hw rfl) hl) (fun _ => rfl) ?_
  rintro ⟨gb5, gc5, gs5⟩ ⟨hgl5, hgc5⟩
  refine wl_v rfl (val_field fo_28_3 (lk rfl)) ?_
  refine wl_store1 2 rfl (lk rfl) (lk rfl) t1_26 rfl (rfl) ?_
  refine wl_nil ?_
  refine px_then ?_
  refine wc_seq ?_
  refine wc_region ?_
  refine wl_v rfl (val_loadB (.tail _ (.tail _ (.head _))) (lk rfl) ag_28) ?_
  refine wl_storeB 1 rfl (lk rfl) (lk rfl) ag_28 rfl rfl ?_
  refine wl_nil ?_
  refine px_then ?_
  refine wc_ret ?_
  refine fin1 rfl (res_cell rfl (.tail _ (.head _)) ag_28) (fun w1 hw => ?_)
  exact ⟨(gb5, gc5, gs5), ⟨hgl5, hgc5⟩, rfl, hw.mask [true, false, false] rfl⟩

theorem sCopyAcc_c (a : Acc) (A : Option Addr) (b o c : Nat) (w : World) (hs : Sl w A b o (flat encR a.res)) (hl : a.res.length ≤ 1048576) :
    Calls Try.prog 51 #[a.val A c] w fun e w' => ∃ x : Nat × Nat × List Value, ((flat encR (a).res ++ x.2.2).length = x.2.1 * 2 ∧ x.2.1 ≤ 9223372036854775807) ∧ e = .returned ((a).val (some ⟨x.1, 0, none⟩) x.2.1) ∧ HP w [⟨x.1, true, 71, flat encR (a).res ++ x.2.2⟩] w' := by
  refine calls_entry [] _ Try.func51 rfl Try.ntmps51 (HP.refl w) (env1 rfl) ?_
  refine wc_seq ?_
  refine wc_region ?_
  refine wl_box (lk rfl) rfl fun b1 => ?_
  refine wl_alloc zc_28 rfl fun b2 => ?_
  refine wl_nil ?_
  refine px_then ?_
  refine wc_seq ?_
  refine wc_region ?_
  refine wl_v rfl (val_loadB (.tail _ (.head _)) (lk rfl) ag_28) ?_
  refine wl_alloc zc_28 rfl fun b3 => ?_
  refine wl_storeB 0 rfl (lk rfl) (lk rfl) ag_28 rfl rfl ?_
  refine wl_nil ?_
  refine px_then ?_
  refine wc_seq ?_
  refine wc_region ?_
  refine wl_bslice parts0 bsl_26_0_ rfl fun b4 => ?_
  refine wl_v rfl (val_field fo_28_3 (lk rfl)) ?_
  refine wl_v rfl (val_load1 t1_26 (lk rfl) (cell_own (.tail _ (.tail _ (.tail _ (.head _)))) fun _ => rfl)) ?_
  refine wl_appendR (sp := []) encR_len (by decide) [] a.res 0 es_26 zc_71 rfl eb_71 (lk rfl) rfl rfl (by decide) (lk rfl) (fun _ hw => hs.hp hw rfl) (by first | omega | (simp only [List.length_nil]; omega) | (simp only [List.length_cons, List.length_nil]; omega)) (by first | omega | (simp only [List.length_nil]; omega) | (simp only [List.length_cons, List.length_nil]; omega)) rfl fun a8 ac8 as8 hal8 ham8 => ?_
  refine wl_v rfl (val_field fo_28_3 (lk rfl)) ?_
  refine wl_store1 1 rfl (lk rfl) (lk rfl) t1_26 rfl (rfl) ?_
  refine wl_nil ?_
  refine px_then ?_
  refine wc_seq ?_
  refine wc_region ?_
  refine wl_v rfl (val_loadB (.tail _ (.head _)) (lk rfl) ag_28) ?_
  refine wl_storeB 2 rfl (lk rfl) (lk rfl) ag_28 rfl rfl ?_
  refine wl_nil ?_
  refine px_then ?_
  refine wc_ret ?_
  refine fin1 rfl (res_cell rfl (.tail _ (.tail _ (.head _))) ag_28) (fun w1 hw => ?_)
  exact ⟨(a8, ac8, as8), ⟨hal8, ham8⟩, rfl, hw.mask [true, false, false, false] rfl⟩

theorem markAcc_c (a : Acc) (A : Option Addr) (b c k0 : Nat) (cs : List Value) (w : World) (hA : 0 < a.res.length → A = some ⟨b, 0, none⟩) (hb : w.heap[b]? = some (.cells cs.toArray 71 (0, 0))) (hn : a.res.length ≤ 1048600) (hk0 : k0 ≤ 268435456) (hcl : a.res.length * 2 ≤ cs.length) :
    Calls Try.prog 18 #[a.val A c, .int .i64 (k0 : Nat)] w fun e w' => ∃ _ : Unit, True ∧ e = .returned (.int .i64 ((k0 + a.res.length * 2 : Nat) : Int)) ∧ HP w [⟨b, false, 71, seqV k0 (a.res.length * 2) ++ cs.drop (a.res.length * 2)⟩] w' := by
  refine calls_entry [⟨b, false, 71, cs⟩] _ Try.func18 rfl Try.ntmps18 (HP.one hb) (env2 rfl) ?_
  refine wc_seq ?_
  refine wc_region ?_
  refine wl_box (lk rfl) rfl fun b1 => ?_
  refine wl_v rfl (val_assign lkc) ?_
  refine wl_nil ?_
  refine px_then ?_
  refine wc_seq ?_
  refine wc_region ?_
  refine wl_v rfl (val_field fo_28_3 (lk rfl)) ?_
  refine wl_v rfl (val_load1 t1_26 (lk rfl) (cell_own (.head _) fun _ => rfl)) ?_
  refine wl_v rfl (val_move (lk rfl)) ?_
  refine wl_callw 1 rfl ci_59 (args2 (lk rfl) (lk rfl)) rfl (fun w1 hw => markReservationS_c _ _ _ _ k0 cs w1 hA (hw.own _ (.tail _ (.head _))) hn hk0 hcl) (fun _ => rfl) ?_
  rintro ⟨⟩ -
  refine wl_v rfl (val_assign (lk rfl)) ?_
  refine wl_nil ?_
  refine px_then ?_
  refine wc_seq ?_
  refine wc_region ?_
  refine wl_v rfl (val_move (lk rfl)) ?_
  refine wl_v rfl (val_assign (lk rfl)) ?_
  refine wl_nil ?_
  refine px_then ?_
  refine wc_ret ?_
  refine fin1 rfl (res_tmp rfl) (fun w1 hw => ?_)
  exact ⟨(), trivial, rfl, hw.mask [false, true] rfl⟩

theorem heldAcc_c (a : Acc) (A : Option Addr) (b o c k0 : Nat) (w : World) (hs : Sl w A b o (seqV k0 (a.res.length * 2))) (hn : a.res.length ≤ 1048600) (hk0 : k0 ≤ 268435456) :
    Calls Try.prog 19 #[a.val A c, .int .i64 (k0 : Nat)] w fun e w' => e = .returned (.int .i64 ((k0 + a.res.length * 2 : Nat) : Int)) ∧ HP w [] w' := by
  refine calls_entry [] _ Try.func19 rfl Try.ntmps19 (HP.refl w) (env2 rfl) ?_
  refine wc_seq ?_
  refine wc_region ?_
  refine wl_box (lk rfl) rfl fun b1 => ?_
  refine wl_v rfl (val_assign lkc) ?_
  refine wl_nil ?_
  refine px_then ?_
  refine wc_seq ?_
  refine wc_region ?_
  refine wl_v rfl (val_field fo_28_3 (lk rfl)) ?_
  refine wl_v rfl (val_load1 t1_26 (lk rfl) (cell_own (.head _) fun _ => rfl)) ?_
  refine wl_v rfl (val_move (lk rfl)) ?_
  refine wl_call gd_none rfl ci_60 (args2 (lk rfl) (lk rfl)) (fun hG w1 hw => heldReservationS_c _ _ _ _ _ k0 w1 (hs.hp hw rfl) hn hk0) ?_
  refine wl_v rfl (val_assign (lk rfl)) ?_
  refine wl_nil ?_
  refine px_then ?_
  refine wc_seq ?_
  refine wc_seq ?_
  refine wc_region ?_
  refine wl_v rfl (val_move (lk rfl)) ?_
  refine wl_v rfl (val_lss (lk rfl) lkc) ?_
  refine wl_nil ?_
  refine px_then ?_
  refine wc_cond (lk rfl) (fun hc0 => ?_) (fun hc0 => ?_)
  · (exfalso; have h9 := of_decide_eq_true hc0; omega)
  refine wc_skip ?_
  refine px_then ?_
  refine wc_seq ?_
  refine wc_region ?_
  refine wl_v rfl (val_move (lk rfl)) ?_
  refine wl_v rfl (val_assign (lk rfl)) ?_
  refine wl_nil ?_
  refine px_then ?_
  refine wc_ret ?_
  refine fin1 rfl (res_tmp rfl) (fun w1 hw => ?_)
  exact ⟨rfl, hw.drop rfl⟩


def newAcc (t : Int) : Acc := if inRange t 0 100000 then ⟨t, t, 0, []⟩ else ⟨0, 0, 0, []⟩
theorem newAcc_res (t : Int) : (newAcc t).res = [] := by unfold newAcc; split <;> rfl

theorem sNew_c (t : Int) (w : World) :
    Calls Try.prog 81 #[.int .i64 t] w fun e w' => e = .returned ((newAcc t).val none 0) ∧ HP w [] w' := by
  refine calls_entry [] _ Try.func81 rfl Try.ntmps81 (HP.refl w) (env1 rfl) ?_
  refine wc_seq ?_
  refine wc_region ?_
  refine wl_alloc zc_28 rfl fun b1 => ?_
  refine wl_nil ?_
  refine px_then ?_
  refine wc_seq ?_
  refine wc_seq ?_
  refine wc_region ?_
  refine wl_v rfl (val_move (lk rfl)) ?_
  refine wl_call gd_none rfl ci_61 (args3 (lk rfl) lkc lkc) (fun hG w1 hw => l1In_c _ _ _ w1) ?_
  refine wl_v rfl (val_not (lk rfl)) ?_
  refine wl_nil ?_
  refine px_then ?_
  refine wc_cond (lk rfl) (fun hc0 => ?_) (fun hc0 => ?_)
  · refine wc_region ?_
    refine wl_v rfl (val_assign lkc) ?_
    refine wl_nil ?_
    refine px_then ?_
    refine wc_seq ?_
    refine wc_region ?_
    refine wl_v rfl (val_move (lk rfl)) ?_
    refine wl_v rfl (val_move (lk rfl)) ?_
    refine wl_v rfl (val_buildP (partsC (lk rfl) (partsC (lk rfl) parts0)) (bl_28_0_1 _ _)) ?_
    refine wl_storeB 0 rfl (lk rfl) (lk rfl) ag_28 rfl rfl ?_
    refine wl_nil ?_
    refine px_then ?_
    refine wc_ret ?_
    refine fin1 rfl (res_cell rfl (.head _) ag_28) (fun w1 hw => ?_)
    exact ⟨by rw [newAcc, if_neg (by simpa using hc0)]; rfl, hw.drop rfl⟩
  refine wc_skip ?_
  refine px_then ?_
  refine wc_seq ?_
  refine wc_region ?_
  refine wl_v rfl (val_move (lk rfl)) ?_
  refine wl_v rfl (val_move (lk rfl)) ?_
  refine wl_v rfl (val_buildP (partsC (lk rfl) (partsC (lk rfl) parts0)) (bl_28_0_1 _ _)) ?_
  refine wl_storeB 0 rfl (lk rfl) (lk rfl) ag_28 rfl rfl ?_
  refine wl_nil ?_
  refine px_then ?_
  refine wc_ret ?_
  refine fin1 rfl (res_cell rfl (.head _) ag_28) (fun w1 hw => ?_)
  exact ⟨by rw [newAcc, if_pos (by simpa using hc0)]; rfl, hw.drop rfl⟩

theorem markRes0_c (A : Option Addr) (c k0 : Nat) (w : World) :
    Calls Try.prog 59 #[.slice A 0 c, .int .i64 (k0 : Nat)] w fun e w' => e = .returned (.int .i64 (k0 : Nat)) ∧ HP w [] w' := by
  refine calls_entry [] _ Try.func59 rfl Try.ntmps59 (HP.refl w) (env2 rfl) ?_
  refine wc_seq ?_
  refine wc_region ?_
  refine wl_v rfl (val_assign lkc) ?_
  refine wl_nil ?_
  refine px_then ?_
  refine wc_seq ?_
  refine wc_seq ?_
  refine wc_region ?_
  refine wl_v rfl (val_assign lkc) ?_
  refine wl_nil ?_
  refine px_then ?_
  refine wc_block ?_
  refine wc_trim (l' := [(0, _), (1, _), (4, _), (5, _)]) ⟨rfl, rfl, rfl, rfl, trivial⟩ ?_
  refine wc_loop0 (X := Nat) (fun k => k = 0) (fun k => [(5, (true, .int .i64 (k : Nat)))]) (fun k => k) 0 (rfl) ⟨rfl, rfl, rfl, rfl, rfl, trivial⟩ ?_
  intro k hk
  refine wc_seq ?_
  refine wc_seq ?_
  refine wc_region ?_
  refine wl_v rfl (val_move (lk rfl)) ?_
  refine wl_v rfl (val_move (lk rfl)) ?_
  refine wl_v rfl (val_len es_26 (lk rfl)) ?_
  refine wl_v rfl (val_lss (lk rfl) (lk rfl)) ?_
  refine wl_nil ?_
  refine px_then ?_
  refine wc_cond (lk rfl) (fun hc0 => ?_) (fun hc0 => ?_)
  · (exfalso; have h9 := of_decide_eq_true hc0; omega)
  refine wc_exit ?_
  refine px_then_exit ?_
  refine px_then_exit ?_
  refine px_block_exit ?_
  refine px_then ?_
  refine wc_seq ?_
  refine wc_region ?_
  refine wl_v rfl (val_move (lk rfl)) ?_
  refine wl_v rfl (val_assign (lk rfl)) ?_
  refine wl_nil ?_
  refine px_then ?_
  refine wc_ret ?_
  refine fin1 rfl (res_tmp rfl) (fun w1 hw => ?_)
  exact ⟨rfl, hw.drop rfl⟩

theorem markAcc0_c (t v s : Int) (A : Option Addr) (c k0 : Nat) (w : World) :
    Calls Try.prog 18 #[(⟨t, v, s, []⟩ : Acc).val A c, .int .i64 (k0 : Nat)] w fun e w' => e = .returned (.int .i64 (k0 : Nat)) ∧ HP w [] w' := by
  refine calls_entry [] _ Try.func18 rfl Try.ntmps18 (HP.refl w) (env2 rfl) ?_
  refine wc_seq ?_
  refine wc_region ?_
  refine wl_box (lk rfl) rfl fun b1 => ?_
  refine wl_v rfl (val_assign lkc) ?_
  refine wl_nil ?_
  refine px_then ?_
  refine wc_seq ?_
  refine wc_region ?_
  refine wl_v rfl (val_field fo_28_3 (lk rfl)) ?_
  refine wl_v rfl (val_load1 t1_26 (lk rfl) (cell_own (.head _) fun _ => rfl)) ?_
  refine wl_v rfl (val_move (lk rfl)) ?_
  refine wl_call gd_none rfl ci_59 (args2 (lk rfl) (lk rfl)) (fun hG w1 hw => markRes0_c _ _ k0 w1) ?_
  refine wl_v rfl (val_assign (lk rfl)) ?_
  refine wl_nil ?_
  refine px_then ?_
  refine wc_seq ?_
  refine wc_region ?_
  refine wl_v rfl (val_move (lk rfl)) ?_
  refine wl_v rfl (val_assign (lk rfl)) ?_
  refine wl_nil ?_
  refine px_then ?_
  refine wc_ret ?_
  refine fin1 rfl (res_tmp rfl) (fun w1 hw => ?_)
  exact ⟨rfl, hw.drop rfl⟩

end Go.Proofs.Ytdiojflamjppmaa
