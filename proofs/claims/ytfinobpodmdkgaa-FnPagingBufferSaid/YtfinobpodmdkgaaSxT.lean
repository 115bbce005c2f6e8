/- Bytes: what the helpers of the laws and the copies do with them, walked. -/
import Derived.Test.YtfinobpodmdkgaaSxM
namespace Go.Proofs.Ytfinobpodmdkgaa
open Go.RowKit


def bv (xs : List Int) : List Value := xs.map fun x => .int .u8 x
theorem bv_len (xs : List Int) : (bv xs).length = xs.length := List.length_map _
theorem bv_get {xs : List Int} {k : Nat} (h : k < xs.length) : (bv xs)[k]? = some (.int .u8 (nth 0 xs k)) := by
  rw [bv, List.getElem?_map, List.getElem?_eq_getElem h, nth_eq h]; rfl
theorem bv_head {w : World} {A : Option Addr} {b o k : Nat} {xs : List Int} (hs : Sl w A b o (bv xs)) (h : k < xs.length) : A = some ⟨b, o, none⟩ := hs.head (by rw [bv_len]; omega)
theorem bv_cell {w : World} {A : Option Addr} {b o k : Nat} {xs : List Int} (hs : Sl w A b o (bv xs)) (h : k < xs.length) : w.cell? ⟨b, o + k * 1, none⟩ = some (.int .u8 (nth 0 xs k)) := by
  rw [Nat.mul_one]; exact hs.cell k _ (bv_get h)
theorem bv_step {xs : List Int} {cs0 : List Value} {m : Nat} (hm : m < xs.length) (h0 : xs.length = cs0.length) :
    (bv (xs.take m) ++ cs0.drop m).set (0 + m * 1) (.int .u8 (nth 0 xs m)) = bv (xs.take (m + 1)) ++ cs0.drop (m + 1) := by
  have hl : (bv (xs.take m)).length = m := by rw [bv_len, List.length_take]; omega
  rw [Nat.zero_add, Nat.mul_one, List.set_append_right _ _ (by omega), hl, Nat.sub_self, take_nth (d := (0 : Int)) hm, bv, bv, List.map_append, List.append_assoc]
  congr 1
  rw [List.drop_eq_getElem_cons (show m < cs0.length by omega), List.set_cons_zero]
  rfl
def eq8 (m n : Int) : Bool := m == n
theorem eq8_refl (m : Int) : eq8 m m = true := by simp [eq8]

theorem toByteS_c (xs : List Int) (A : Option Addr) (b o c : Nat) (w : World) (hs : Sl w A b o (bv xs)) (hl : xs.length ≤ 2097152) :
    Calls Try.prog 32 #[.slice A xs.length c] w fun e w' => ∃ x : Nat, True ∧ e = .returned (.slice (some ⟨x, 0, none⟩) (xs).length (xs).length) ∧ HP w [⟨x, true, 5, bv (xs)⟩] w' := by
  refine calls_entry [] _ Try.func32 rfl Try.ntmps32 (HP.refl w) (env1 rfl) ?_
  refine wc_seq ?_
  refine wc_region ?_
  refine wl_v rfl (val_assign lkc) ?_
  refine wl_nil ?_
  refine px_then ?_
  refine wc_seq ?_
  refine wc_region ?_
  refine wl_v rfl (val_move (lk rfl)) ?_
  refine wl_v rfl (val_len es_42 (lk rfl)) ?_
  refine wl_make es_42 zc_5 eb_5 (by omega) (by omega) (lk rfl) (lk rfl) rfl fun b1 csb1 hcsb1 => ?_
  refine wl_v rfl (val_assign (lk rfl)) ?_
  refine wl_nil ?_
  refine px_then ?_
  refine wc_seq ?_
  refine wc_seq ?_
  refine wc_region ?_
  refine wl_v rfl (val_assign lkc) ?_
  refine wl_nil ?_
  refine px_then ?_
  refine wc_block ?_
  refine wc_trim (l' := [(0, _), (2, _), (3, _), (4, _)]) ⟨rfl, rfl, rfl, rfl, trivial⟩ ?_
  refine wc_loopl (X := Nat) (fun k => k ≤ xs.length) (fun k => [(4, (true, .int .i64 (k : Nat)))]) (fun k => [⟨b1, true, 5, bv (xs.take k) ++ csb1.drop k⟩]) (fun k => xs.length - k) 0 (Nat.zero_le _) ⟨rfl, rfl, rfl, rfl, rfl, trivial⟩ (fun _ h => by simpa [bv] using h) ?_
  intro k hk
  refine wc_seq ?_
  refine wc_seq ?_
  refine wc_region ?_
  refine wl_v rfl (val_move (lk rfl)) ?_
  refine wl_v rfl (val_move (lk rfl)) ?_
  refine wl_v rfl (val_len es_42 (lk rfl)) ?_
  refine wl_v rfl (val_lss (lk rfl) (lk rfl)) ?_
  refine wl_nil ?_
  refine px_then ?_
  refine wc_cond (lk rfl) (fun hc0 => ?_) (fun hc0 => ?_)
  · have hlt : k < xs.length := by have h9 : ((k : Nat) : Int) < ((xs.length : Nat) : Int) := of_decide_eq_true hc0; omega
    refine wc_skip ?_
    refine px_then ?_
    refine wc_seq ?_
    refine wc_block ?_
    refine wc_region ?_
    refine wl_v rfl (val_move (lk rfl)) ?_
    refine wl_v rfl (val_move (lk rfl)) ?_
    refine wl_v rfl (val_move (lk rfl)) ?_
    refine wl_v rfl (val_move (lk rfl)) ?_
    refine wl_v rfl (val_index es_42 (lk rfl) (lk rfl) (fun hG => bv_head hs hlt) (fun hG => hlt)) ?_
    refine wl_v rfl (val_load1 t1_5 (lk rfl) (cell_old rfl fun _ => bv_cell hs hlt)) ?_
    refine wl_v rfl (val_index es_42 (lk rfl) (lk rfl) (fun hG => rfl) (fun hG => hlt)) ?_
    refine wl_store1 0 rfl (lk rfl) (lk rfl) t1_5 rfl (by rw [Nat.blt_eq, List.length_append, bv_len, List.length_take, List.length_drop]; omega) ?_
    refine wl_nil ?_
    refine px_block ?_
    refine px_then ?_
    refine wc_region ?_
    refine wl_v rfl (val_move (lk rfl)) ?_
    refine wl_v rfl (val_inc (lk rfl) (by omega)) ?_
    refine wl_v rfl (val_assign (lk rfl)) ?_
    refine wl_nil ?_
    have hfs := bv_step (cs0 := csb1) hlt (by omega)
    refine px_round (k + 1) (by omega) (by omega) (⟨rfl, rfl, rfl, rfl, rfl, trivial⟩) (fun w1 h => by
      have h' : HP w [⟨b1, true, 5, (bv (xs.take k) ++ csb1.drop k).set (0 + k * 1) (.int .u8 (nth 0 xs k))⟩] w1 := h.mask [true] rfl
      rw [hfs] at h'
      exact h')
  have hge : k = xs.length := by have h9 : ¬ ((k : Nat) : Int) < ((xs.length : Nat) : Int) := of_decide_eq_false hc0; omega
  subst hge
  refine wc_exit ?_
  refine px_then_exit ?_
  refine px_then_exit ?_
  refine px_block_exit ?_
  refine px_then ?_
  refine wc_seq ?_
  refine wc_region ?_
  refine wl_v rfl (val_move (lk rfl)) ?_
  refine wl_v rfl (val_assign (lk rfl)) ?_
  refine wl_nil ?_
  refine px_then ?_
  refine wc_ret ?_
  refine fin1 rfl (res_tmp rfl) (fun w1 hw => ?_)
  exact ⟨b1, trivial, rfl, by
    have h' := hw.dropN 0 rfl
    simpa [List.drop_of_length_le (show csb1.length ≤ xs.length by omega)] using h'⟩

theorem eqByteS_c (xs ys : List Int) (A B : Option Addr) (b o c b2 o2 c2 : Nat) (w : World) (hs : Sl w A b o (bv xs)) (hs2 : Sl w B b2 o2 (bv ys)) (hl : xs.length ≤ 2097152) :
    Calls Try.prog 33 #[.slice A xs.length c, .slice B ys.length c2] w fun e w' => e = .returned (.bool (eqRows eq8 xs ys)) ∧ HP w [] w' := by
  refine calls_entry [] _ Try.func33 rfl Try.ntmps33 (HP.refl w) (env2 rfl) ?_
  refine wc_seq ?_
  refine wc_region ?_
  refine wl_v rfl (val_assign lkc) ?_
  refine wl_nil ?_
  refine px_then ?_
  refine wc_seq ?_
  refine wc_seq ?_
  refine wc_region ?_
  refine wl_v rfl (val_move (lk rfl)) ?_
  refine wl_v rfl (val_len es_42 (lk rfl)) ?_
  refine wl_v rfl (val_move (lk rfl)) ?_
  refine wl_v rfl (val_len es_42 (lk rfl)) ?_
  refine wl_v rfl (val_neq (lk rfl) (lk rfl)) ?_
  refine wl_nil ?_
  refine px_then ?_
  refine wc_cond (lk rfl) (fun hc0 => ?_) (fun hc0 => ?_)
  · refine wc_seq ?_
    refine wc_region ?_
    refine wl_v rfl (val_assign lkc) ?_
    refine wl_nil ?_
    refine px_then ?_
    refine wc_ret ?_
    refine px_then_ret ?_
    refine fin1 rfl (res_tmp rfl) (fun w1 hw => ?_)
    exact ⟨by rw [eqRows_ne (cast_ne' hc0)], hw.drop rfl⟩
  have hxy : xs.length = ys.length := cast_ne hc0
  refine wc_skip ?_
  refine px_then ?_
  refine wc_seq ?_
  refine wc_seq ?_
  refine wc_region ?_
  refine wl_v rfl (val_assign lkc) ?_
  refine wl_nil ?_
  refine px_then ?_
  refine wc_block ?_
  refine wc_trim (l' := [(0, _), (1, _), (4, _), (5, _)]) ⟨rfl, rfl, rfl, rfl, trivial⟩ ?_
  refine wc_loop0 (X := Nat) (fun k => k ≤ xs.length ∧ eqRows eq8 (xs.drop k) (ys.drop k) = eqRows eq8 xs ys) (fun k => [(5, (true, .int .i64 (k : Nat)))]) (fun k => xs.length - k) 0 (⟨Nat.zero_le _, rfl⟩) ⟨rfl, rfl, rfl, rfl, rfl, trivial⟩ ?_
  rintro k ⟨hk, ht⟩
  refine wc_seq ?_
  refine wc_seq ?_
  refine wc_region ?_
  refine wl_v rfl (val_move (lk rfl)) ?_
  refine wl_v rfl (val_move (lk rfl)) ?_
  refine wl_v rfl (val_len es_42 (lk rfl)) ?_
  refine wl_v rfl (val_lss (lk rfl) (lk rfl)) ?_
  refine wl_nil ?_
  refine px_then ?_
  refine wc_cond (lk rfl) (fun hc1 => ?_) (fun hc1 => ?_)
  · have hlt : k < xs.length := by have := of_decide_eq_true hc1; omega
    have hlt2 : k < ys.length := by omega
    refine wc_skip ?_
    refine px_then ?_
    refine wc_seq ?_
    refine wc_block ?_
    refine wc_seq ?_
    refine wc_region_q mo_ (by kernel_rfl) ?_
    refine wq_v rfl (val_move (lk rfl)) ?_
    refine wq_v rfl (val_move (lk rfl)) ?_
    refine wq_v rfl (val_index es_42 (lk rfl) (lk rfl) (fun hG => bv_head hs hlt) (fun hG => hlt)) ?_
    refine wq_v rfl (val_load1 t1_5 (lk rfl) (cell_old rfl fun _ => bv_cell hs hlt)) ?_
    refine wq_v rfl (val_move (lk rfl)) ?_
    refine wq_v rfl (val_move (lk rfl)) ?_
    refine wq_v rfl (val_index es_42 (lk rfl) (lk rfl) (fun hG => bv_head hs2 hlt2) (fun hG => hlt2)) ?_
    refine wq_v rfl (val_load1 t1_5 (lk rfl) (cell_old rfl fun _ => bv_cell hs2 hlt2)) ?_
    refine wq_v rfl (val_neq (lk rfl) (lk rfl)) ?_
    refine wq_nil ?_
    refine px_then ?_
    refine wc_cond (lk rfl) (fun hc2 => ?_) (fun hc2 => ?_)
    · refine wc_seq ?_
      refine wc_region ?_
      refine wl_v rfl (val_assign lkc) ?_
      refine wl_nil ?_
      refine px_then ?_
      refine wc_ret ?_
      refine px_block_ret ?_
      refine px_then_ret ?_
      refine px_then_ret ?_
      refine px_block_ret ?_
      refine px_then_ret ?_
      refine fin1 rfl (res_tmp rfl) (fun w1 hw => ?_)
      exact ⟨by rw [← ht, eqRows_step (d := (0 : Int)) hlt (by omega), show eq8 (nth 0 xs k) (nth 0 ys k) = false by simpa [eq8] using hc2]; rfl, hw.drop rfl⟩
    refine wc_skip ?_
    refine px_block ?_
    refine px_then ?_
    refine wc_region ?_
    refine wl_v rfl (val_move (lk rfl)) ?_
    refine wl_v rfl (val_inc (lk rfl) (by omega)) ?_
    refine wl_v rfl (val_assign (lk rfl)) ?_
    refine wl_nil ?_
    refine px_round0 (k + 1) (⟨by omega, by rw [← ht, eqRows_step (d := (0 : Int)) hlt (by omega)]; simp at hc2; rw [hc2, eq8_refl]; rfl⟩) (by omega) (⟨rfl, rfl, rfl, rfl, rfl, trivial⟩) (fun _ h => h.dropN 0 rfl)
  have hge : k = xs.length := by have := of_decide_eq_false hc1; omega
  subst hge
  refine wc_exit ?_
  refine px_then_exit ?_
  refine px_then_exit ?_
  refine px_block_exit ?_
  refine px_then ?_
  refine wc_seq ?_
  refine wc_region ?_
  refine wl_v rfl (val_assign lkc) ?_
  refine wl_nil ?_
  refine px_then ?_
  refine wc_ret ?_
  refine fin1 rfl (res_tmp rfl) (fun w1 hw => ?_)
  have e1 : xs.drop xs.length = [] := by simp
  have e2 : ys.drop xs.length = [] := by simp [hxy]
  exact ⟨by rw [← ht, e1, e2]; rfl, hw.drop rfl⟩


def mk8 (k0 n : Nat) : List Int := (List.range n).map fun j => IntKind.u8.wrap ((k0 + j : Nat) : Int)
theorem mk8_len (k0 n : Nat) : (mk8 k0 n).length = n := by simp [mk8]
theorem mk8_nth {k0 n k : Nat} (h : k < n) : nth 0 (mk8 k0 n) k = IntKind.u8.wrap ((k0 + k : Nat) : Int) := by
  rw [nth_eq (by rw [mk8_len]; exact h)]; simp [mk8]

theorem heldByteS_c (k0 n : Nat) (A : Option Addr) (b o c : Nat) (w : World) (hs : Sl w A b o (bv (mk8 k0 n))) (hl : n ≤ 2097152) (hk0 : k0 ≤ 1099511627776) :
    Calls Try.prog 44 #[.slice A n c, .int .i64 (k0 : Nat)] w fun e w' => e = .returned (.int .i64 ((k0 + n : Nat) : Int)) ∧ HP w [] w' := by
  refine calls_entry [] _ Try.func44 rfl Try.ntmps44 (HP.refl w) (env2 rfl) ?_
  refine wc_seq ?_
  refine wc_region ?_
  refine wl_v rfl (val_assign lkc) ?_
  refine wl_nil ?_
  refine px_then ?_
  refine wc_seq ?_
  refine wc_seq ?_
  refine wc_region ?_
  refine wl_v rfl (val_assign lkc) ?_
  refine wl_nil ?_
  refine px_then ?_
  refine wc_block ?_
  refine wc_trim (l' := [(0, _), (1, _), (4, _), (5, _)]) ⟨rfl, rfl, rfl, rfl, trivial⟩ ?_
  refine wc_loop0 (X := Nat) (fun k => k ≤ n) (fun k => [(1, (true, .int .i64 ((k0 + k : Nat) : Int))), (5, (true, .int .i64 (k : Nat)))]) (fun k => n - k) 0 (Nat.zero_le _) ⟨slotN (by omega), rfl, rfl, slotN (by omega), rfl, rfl, trivial⟩ ?_
  intro k hk
  refine wc_seq ?_
  refine wc_seq ?_
  refine wc_region ?_
  refine wl_v rfl (val_move (lk rfl)) ?_
  refine wl_v rfl (val_move (lk rfl)) ?_
  refine wl_v rfl (val_len es_42 (lk rfl)) ?_
  refine wl_v rfl (val_lss (lk rfl) (lk rfl)) ?_
  refine wl_nil ?_
  refine px_then ?_
  refine wc_cond (lk rfl) (fun hc0 => ?_) (fun hc0 => ?_)
  · have hkn : k < n := by have h9 : ((k : Nat) : Int) < ((n : Nat) : Int) := of_decide_eq_true hc0; omega
    have hlt : k < (mk8 k0 n).length := by rw [mk8_len]; exact hkn
    refine wc_skip ?_
    refine px_then ?_
    refine wc_seq ?_
    refine wc_block ?_
    refine wc_seq ?_
    refine wc_seq ?_
    refine wc_region ?_
    refine wl_v rfl (val_move (lk rfl)) ?_
    refine wl_v rfl (val_move (lk rfl)) ?_
    refine wl_v rfl (val_index es_42 (lk rfl) (lk rfl) (fun hG => bv_head hs hlt) (fun hG => by rw [mk8_len] at hlt; exact hlt)) ?_
    refine wl_v rfl (val_load1 t1_5 (lk rfl) (cell_old rfl fun _ => bv_cell hs hlt)) ?_
    refine wl_v rfl (val_move (lk rfl)) ?_
    refine wl_v rfl (val_conv (by kernel_rfl) Try.underlying5 (lk rfl)) ?_
    refine wl_v rfl (val_neq (lk rfl) (lk rfl)) ?_
    refine wl_nil ?_
    refine px_then ?_
    refine wc_cond (lk rfl) (fun hc1 => ?_) (fun hc1 => ?_)
    · (exfalso; rw [mk8_nth (by rw [mk8_len] at hlt; exact hlt)] at hc1; simp at hc1)
    refine wc_skip ?_
    refine px_then ?_
    refine wc_region ?_
    refine wl_v rfl (val_move (lk rfl)) ?_
    refine wl_v rfl (val_inc (lk rfl) (by omega)) ?_
    refine wl_v rfl (val_assign (lk rfl)) ?_
    refine wl_nil ?_
    refine px_block ?_
    refine px_then ?_
    refine wc_region ?_
    refine wl_v rfl (val_move (lk rfl)) ?_
    refine wl_v rfl (val_inc (lk rfl) (by omega)) ?_
    refine wl_v rfl (val_assign (lk rfl)) ?_
    refine wl_nil ?_
    refine px_round0 (k + 1) (by omega) (by omega) (⟨slotN (by omega), rfl, rfl, slotN (by omega), rfl, rfl, trivial⟩) (fun _ h => h.dropN 0 rfl)
  have hge : k = n := by have h9 : ¬ ((k : Nat) : Int) < ((n : Nat) : Int) := of_decide_eq_false hc0; omega
  subst hge
  refine wc_exit ?_
  refine px_then_exit ?_
  refine px_then_exit ?_
  refine px_block_exit ?_
  refine px_then ?_
  refine wc_seq ?_
  refine wc_region ?_
  refine wl_v rfl (val_move (lk rfl)) ?_
  refine wl_v rfl (val_assign (lk rfl)) ?_
  refine wl_nil ?_
  refine px_then ?_
  refine wc_ret ?_
  refine fin1 rfl (res_tmp rfl) (fun w1 hw => ?_)
  exact ⟨rfl, hw.drop rfl⟩

theorem szByteS_c (A : Option Addr) (n c : Nat) (m : Int) (w : World) (h0 : 0 ≤ m ∧ m ≤ 1048576) (hn : n ≤ 9223372036854775807) :
    Calls Try.prog 58 #[.slice A n c, .int .i64 m] w fun e w' => e = .returned (.int .i64 (szN m n)) ∧ HP w [] w' := by
  refine calls_entry [] _ Try.func58 rfl Try.ntmps58 (HP.refl w) (env2 rfl) ?_
  refine wc_seq ?_
  refine wc_region ?_
  refine wl_v rfl (val_assign lkc) ?_
  refine wl_nil ?_
  refine px_then ?_
  refine wc_seq ?_
  refine wc_region ?_
  refine wl_v rfl (val_move (lk rfl)) ?_
  refine wl_v rfl (val_move (lk rfl)) ?_
  refine wl_v rfl (val_len es_42 (lk rfl)) ?_
  refine wl_v rfl ((val_sub (lk rfl) (lk rfl)).eq (by rw [wrap64_in' (by omega)])) ?_
  refine wl_v rfl (val_assign (lk rfl)) ?_
  refine wl_nil ?_
  refine px_then ?_
  refine wc_seq ?_
  refine wc_seq ?_
  refine wc_region ?_
  refine wl_v rfl (val_move (lk rfl)) ?_
  refine wl_v rfl (val_lss (lk rfl) lkc) ?_
  refine wl_nil ?_
  refine px_then ?_
  refine wc_cond (lk rfl) (fun hc0 => ?_) (fun hc0 => ?_)
  · refine wc_seq ?_
    refine wc_region ?_
    refine wl_v rfl (val_assign lkc) ?_
    refine wl_nil ?_
    refine px_then ?_
    refine wc_ret ?_
    refine px_then_ret ?_
    refine fin1 rfl (res_tmp rfl) (fun w1 hw => ?_)
    exact ⟨by rw [szN, if_pos (by simpa using hc0)], hw.drop rfl⟩
  refine wc_skip ?_
  refine px_then ?_
  refine wc_seq ?_
  refine wc_region ?_
  refine wl_v rfl (val_move (lk rfl)) ?_
  refine wl_v rfl (val_assign (lk rfl)) ?_
  refine wl_nil ?_
  refine px_then ?_
  refine wc_ret ?_
  refine fin1 rfl (res_tmp rfl) (fun w1 hw => ?_)
  exact ⟨by rw [szN, if_neg (by simpa using hc0)], hw.drop rfl⟩


theorem mk8_step {k0 m : Nat} {cs : List Value} (hm : m < cs.length) : (bv (mk8 k0 m) ++ cs.drop m).set (0 + m * 1) (.int .u8 (IntKind.u8.wrap ((k0 + m : Nat) : Int))) = bv (mk8 k0 (m + 1)) ++ cs.drop (m + 1) := by
  have hl : (bv (mk8 k0 m)).length = m := by rw [bv_len, mk8_len]
  have h1 : mk8 k0 (m + 1) = mk8 k0 m ++ [IntKind.u8.wrap ((k0 + m : Nat) : Int)] := by simp [mk8, List.range_succ]
  rw [Nat.zero_add, Nat.mul_one, List.set_append_right _ _ (by omega), hl, Nat.sub_self, h1, bv, bv, List.map_append, List.append_assoc]
  congr 1
  rw [List.drop_eq_getElem_cons hm, List.set_cons_zero]
  rfl

theorem markByteS_c (A : Option Addr) (b n c k0 : Nat) (cs : List Value) (w : World) (hA : 0 < n → A = some ⟨b, 0, none⟩) (hb : w.heap[b]? = some (.cells cs.toArray 5 (0, 0))) (hn : n ≤ 2097152) (hk0 : k0 ≤ 1099511627776) (hcl : n ≤ cs.length) :
    Calls Try.prog 34 #[.slice A n c, .int .i64 (k0 : Nat)] w fun e w' => ∃ _ : Unit, True ∧ e = .returned (.int .i64 ((k0 + n : Nat) : Int)) ∧ HP w [⟨b, false, 5, bv (mk8 k0 n) ++ cs.drop n⟩] w' := by
  refine calls_entry [⟨b, false, 5, cs⟩] _ Try.func34 rfl Try.ntmps34 (HP.one hb) (env2 rfl) ?_
  refine wc_seq ?_
  refine wc_region ?_
  refine wl_v rfl (val_assign lkc) ?_
  refine wl_nil ?_
  refine px_then ?_
  refine wc_seq ?_
  refine wc_seq ?_
  refine wc_region ?_
  refine wl_v rfl (val_assign lkc) ?_
  refine wl_nil ?_
  refine px_then ?_
  refine wc_block ?_
  refine wc_trim (l' := [(0, _), (1, _), (4, _), (5, _)]) ⟨rfl, rfl, rfl, rfl, trivial⟩ ?_
  refine wc_loopl (X := Nat) (fun k => k ≤ n) (fun k => [(1, (true, .int .i64 ((k0 + k : Nat) : Int))), (5, (true, .int .i64 (k : Nat)))]) (fun k => [⟨b, false, 5, bv (mk8 k0 k) ++ cs.drop k⟩]) (fun k => n - k) 0 (Nat.zero_le _) ⟨slotN (by omega), rfl, rfl, slotN (by omega), rfl, rfl, trivial⟩ (fun _ h => by simpa [bv, mk8] using h) ?_
  intro k hk
  refine wc_seq ?_
  refine wc_seq ?_
  refine wc_region ?_
  refine wl_v rfl (val_move (lk rfl)) ?_
  refine wl_v rfl (val_move (lk rfl)) ?_
  refine wl_v rfl (val_len es_42 (lk rfl)) ?_
  refine wl_v rfl (val_lss (lk rfl) (lk rfl)) ?_
  refine wl_nil ?_
  refine px_then ?_
  refine wc_cond (lk rfl) (fun hc0 => ?_) (fun hc0 => ?_)
  · have hlt : k < n := by have h9 : ((k : Nat) : Int) < ((n : Nat) : Int) := of_decide_eq_true hc0; omega
    refine wc_skip ?_
    refine px_then ?_
    refine wc_seq ?_
    refine wc_block ?_
    refine wc_seq ?_
    refine wc_region ?_
    refine wl_v rfl (val_move (lk rfl)) ?_
    refine wl_v rfl (val_move (lk rfl)) ?_
    refine wl_v rfl (val_move (lk rfl)) ?_
    refine wl_v rfl (val_conv (by kernel_rfl) Try.underlying5 (lk rfl)) ?_
    refine wl_v rfl (val_index es_42 (lk rfl) (lk rfl) (fun hG => hA (by omega)) (fun hG => hlt)) ?_
    refine wl_store1 0 rfl (lk rfl) (lk rfl) t1_5 rfl (by rw [Nat.blt_eq, List.length_append, bv_len, mk8_len, List.length_drop]; omega) ?_
    refine wl_nil ?_
    refine px_then ?_
    refine wc_region ?_
    refine wl_v rfl (val_move (lk rfl)) ?_
    refine wl_v rfl (val_inc (lk rfl) (by omega)) ?_
    refine wl_v rfl (val_assign (lk rfl)) ?_
    refine wl_nil ?_
    refine px_block ?_
    refine px_then ?_
    refine wc_region ?_
    refine wl_v rfl (val_move (lk rfl)) ?_
    refine wl_v rfl (val_inc (lk rfl) (by omega)) ?_
    refine wl_v rfl (val_assign (lk rfl)) ?_
    refine wl_nil ?_
    have hfs := mk8_step (k0 := k0) (cs := cs) (m := k) (by omega)
    refine px_round (k + 1) (by omega) (by omega) (⟨slotN (by omega), rfl, rfl, slotN (by omega), rfl, rfl, trivial⟩) (fun w1 h => by
      have h' : HP w [⟨b, false, 5, (bv (mk8 k0 k) ++ cs.drop k).set (0 + k * 1) (.int .u8 (IntKind.u8.wrap ((k0 + k : Nat) : Int)))⟩] w1 := h
      rw [hfs] at h'
      exact h')
  have hge : k = n := by have h9 : ¬ ((k : Nat) : Int) < ((n : Nat) : Int) := of_decide_eq_false hc0; omega
  subst hge
  refine wc_exit ?_
  refine px_then_exit ?_
  refine px_then_exit ?_
  refine px_block_exit ?_
  refine px_then ?_
  refine wc_seq ?_
  refine wc_region ?_
  refine wl_v rfl (val_move (lk rfl)) ?_
  refine wl_v rfl (val_assign (lk rfl)) ?_
  refine wl_nil ?_
  refine px_then ?_
  refine wc_ret ?_
  refine fin1 rfl (res_tmp rfl) (fun w1 hw => ?_)
  exact ⟨(), trivial, rfl, hw⟩


theorem bv_one {xs : List Int} {u : Value} (h : u ∈ bv xs) : u.oneCell' = true := by
  obtain ⟨x, _, rfl⟩ := List.mem_map.1 h
  rfl

theorem copyBytes_c (xs : List Int) (A : Option Addr) (b o c : Nat) (w : World) (hs : Sl w A b o (bv xs)) (hl : xs.length ≤ 2097152) :
    Calls Try.prog 51 #[.slice A xs.length c] w fun e w' => ∃ x : Nat, True ∧ e = .returned (.slice (some ⟨x, 0, none⟩) (xs).length (xs).length) ∧ HP w [⟨x, true, 5, bv (xs)⟩] w' := by
  refine calls_entry [] _ Try.func51 rfl Try.ntmps51 (HP.refl w) (env1 rfl) ?_
  refine wc_seq ?_
  refine wc_region ?_
  refine wl_v rfl (val_assign lkc) ?_
  refine wl_nil ?_
  refine px_then ?_
  refine wc_seq ?_
  refine wc_region ?_
  refine wl_v rfl (val_move (lk rfl)) ?_
  refine wl_v rfl (val_len es_42 (lk rfl)) ?_
  refine wl_make es_42 zc_5 eb_5 (by omega) (by omega) (lk rfl) (lk rfl) rfl fun b1 csb1 hcsb1 => ?_
  refine wl_v rfl (val_assign (lk rfl)) ?_
  refine wl_nil ?_
  refine px_then ?_
  refine wc_seq ?_
  refine wc_region ?_
  refine wl_v rfl (val_move (lk rfl)) ?_
  refine wl_v rfl (val_move (lk rfl)) ?_
  refine wl_copy 0 xs.length es_42 (lk rfl) (lk rfl) (by simp) rfl (fun _ hw => hs.hp hw rfl) (by rw [bv_len, Nat.mul_one]) (by omega) (fun _ h => bv_one h) rfl ?_
  refine wl_nil ?_
  refine px_then ?_
  refine wc_seq ?_
  refine wc_region ?_
  refine wl_v rfl (val_move (lk rfl)) ?_
  refine wl_v rfl (val_assign (lk rfl)) ?_
  refine wl_nil ?_
  refine px_then ?_
  refine wc_ret ?_
  refine fin1 rfl (res_tmp rfl) (fun w1 hw => ?_)
  exact ⟨b1, trivial, rfl, by
    have h' := hw.dropN 0 rfl
    simpa [List.drop_of_length_le (show csb1.length ≤ xs.length by omega)] using h'⟩

end Go.Proofs.Ytfinobpodmdkgaa
