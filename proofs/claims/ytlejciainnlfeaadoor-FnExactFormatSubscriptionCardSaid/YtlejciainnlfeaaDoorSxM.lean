/- Numbers, rows of numbers and bearers: what the helpers compute, walked. -/
import Derived.Test.YtlejciainnlfeaaDoorSxF
namespace Go.Proofs.YtlejciainnlfeaaDoor
open Go.RowKit


def inRange (n a b : Int) : Bool := decide (a ≤ n) && decide (n ≤ b)
def imin (a b : Int) : Int := if b < a then b else a
def imax (a b : Int) : Int := if a < b then b else a
theorem imin_comm (a b : Int) : imin a b = imin b a := by unfold imin; split <;> split <;> omega
theorem imax_comm (a b : Int) : imax a b = imax b a := by unfold imax; split <;> split <;> omega
structure Bear where
  id : Int
  cls : Int
  rate : Int
def encB (r : Bear) : List Int := [r.id, r.cls, r.rate]
theorem encB_len (r : Bear) : (encB r).length = 3 := rfl
abbrev d0B : Bear := ⟨0, 0, 0⟩
def eqB (r s : Bear) : Bool := (r.id == s.id) && (r.cls == s.cls) && (r.rate == s.rate)
theorem eqB_refl (r : Bear) : eqB r r = true := by simp [eqB]


def encI (n : Int) : List Int := [n]
theorem encI_len (n : Int) : (encI n).length = 1 := rfl
def eqI (m n : Int) : Bool := m == n
theorem eqI_refl (n : Int) : eqI n n = true := by simp [eqI]
abbrev d0I : Int := 0

theorem eqIntS_c (xs ys : List Int) (A B : Option Addr) (b o c b2 o2 c2 : Nat) (w : World) (hs : Sl w A b o (flat encI xs)) (hs2 : Sl w B b2 o2 (flat encI ys)) (hl : xs.length ≤ 9223372036854775806) :
    Calls Tryd.prog 14 #[.slice A xs.length c, .slice B ys.length c2] w fun e w' => e = .returned (.bool (eqRows eqI xs ys)) ∧ HP w [] w' := by
  refine calls_entry [] _ Tryd.func14 rfl Tryd.ntmps14 (HP.refl w) (env2 rfl) ?_
  refine wc_seq ?_
  refine wc_region ?_
  refine wl_v rfl (val_assign lkc) ?_
  refine wl_nil ?_
  refine px_then ?_
  refine wc_seq ?_
  refine wc_seq ?_
  refine wc_region ?_
  refine wl_v rfl (val_move (lk rfl)) ?_
  refine wl_v rfl (val_len es_22 (lk rfl)) ?_
  refine wl_v rfl (val_move (lk rfl)) ?_
  refine wl_v rfl (val_len es_22 (lk rfl)) ?_
  refine wl_v rfl (val_neq (lk rfl) (lk rfl)) ?_
  refine wl_nil ?_
  refine px_then ?_
  refine wc_cond (lk rfl) (fun hc0 => ?_) (fun hc0 => ?_)
  · refine wc_seq ?_
    refine wc_region ?_
    refine wl_v rfl (val_assign lkc) ?_
    refine wl_nil ?_
    refine px_then ?_
    refine wc_ret ?_
    refine px_then_ret ?_
    refine fin1 rfl (res_tmp rfl) (fun w1 hw => ?_)
    exact ⟨by rw [eqRows_ne (cast_ne' hc0)], hw.drop rfl⟩
  have hxy : xs.length = ys.length := cast_ne hc0
  refine wc_skip ?_
  refine px_then ?_
  refine wc_seq ?_
  refine wc_seq ?_
  refine wc_region ?_
  refine wl_v rfl (val_assign lkc) ?_
  refine wl_nil ?_
  refine px_then ?_
  refine wc_block ?_
  refine wc_trim (l' := [(0, _), (1, _), (4, _), (5, _)]) ⟨rfl, rfl, rfl, rfl, trivial⟩ ?_
  refine wc_loop0 (X := Nat) (fun k => k ≤ xs.length ∧ eqRows eqI (xs.drop k) (ys.drop k) = eqRows eqI xs ys) (fun k => [(5, (true, .int .i64 (k : Nat)))]) (fun k => xs.length - k) 0 (⟨Nat.zero_le _, rfl⟩) ⟨rfl, rfl, rfl, rfl, rfl, trivial⟩ ?_
  rintro k ⟨hk, ht⟩
  refine wc_seq ?_
  refine wc_seq ?_
  refine wc_region ?_
  refine wl_v rfl (val_move (lk rfl)) ?_
  refine wl_v rfl (val_move (lk rfl)) ?_
  refine wl_v rfl (val_len es_22 (lk rfl)) ?_
  refine wl_v rfl (val_lss (lk rfl) (lk rfl)) ?_
  refine wl_nil ?_
  refine px_then ?_
  refine wc_cond (lk rfl) (fun hc1 => ?_) (fun hc1 => ?_)
  · have hlt : k < xs.length := by have := of_decide_eq_true hc1; omega
    refine wc_skip ?_
    refine px_then ?_
    refine wc_seq ?_
    refine wc_block ?_
    refine wc_seq ?_
    refine wc_region_q mo_ (by kernel_rfl) ?_
    refine wq_v rfl (val_move (lk rfl)) ?_
    refine wq_v rfl (val_move (lk rfl)) ?_
    refine wq_v rfl (val_index es_22 (lk rfl) (lk rfl) (fun hG => hs.hd encI_len (by decide) (i := k) hlt) (fun hG => hlt)) ?_
    refine wq_v rfl (val_load1 t1_3 (lk rfl) (cell_old rfl fun _ => hs.fld encI_len d0I (i := k) (f := 0) hlt (by decide) rfl)) ?_
    refine wq_v rfl (val_move (lk rfl)) ?_
    refine wq_v rfl (val_move (lk rfl)) ?_
    refine wq_v rfl (val_index es_22 (lk rfl) (lk rfl) (fun hG => hs2.hd encI_len (by decide) (i := k) (by omega)) (fun hG => by omega)) ?_
    refine wq_v rfl (val_load1 t1_3 (lk rfl) (cell_old rfl fun _ => hs2.fld encI_len d0I (i := k) (f := 0) (by omega) (by decide) rfl)) ?_
    refine wq_v rfl (val_neq (lk rfl) (lk rfl)) ?_
    refine wq_nil ?_
    refine px_then ?_
    refine wc_cond (lk rfl) (fun hc2 => ?_) (fun hc2 => ?_)
    · refine wc_seq ?_
      refine wc_region ?_
      refine wl_v rfl (val_assign lkc) ?_
      refine wl_nil ?_
      refine px_then ?_
      refine wc_ret ?_
      refine px_block_ret ?_
      refine px_then_ret ?_
      refine px_then_ret ?_
      refine px_block_ret ?_
      refine px_then_ret ?_
      refine fin1 rfl (res_tmp rfl) (fun w1 hw => ?_)
      exact ⟨by rw [← ht, eqRows_step (d := d0I) hlt (by omega), show eqI (nth d0I xs k) (nth d0I ys k) = false by simpa [eqI] using hc2]; rfl, hw.drop rfl⟩
    refine wc_skip ?_
    refine px_block ?_
    refine px_then ?_
    refine wc_region ?_
    refine wl_v rfl (val_move (lk rfl)) ?_
    refine wl_v rfl (val_inc (lk rfl) (by omega)) ?_
    refine wl_v rfl (val_assign (lk rfl)) ?_
    refine wl_nil ?_
    refine px_round0 (k + 1) (⟨by omega, by rw [← ht, eqRows_step (d := d0I) hlt (by omega)]; simp at hc2; rw [hc2, eqI_refl]; rfl⟩) (by omega) (⟨rfl, rfl, rfl, rfl, rfl, trivial⟩) (fun _ h => h.dropN 0 rfl)
  have hge : k = xs.length := by have := of_decide_eq_false hc1; omega
  subst hge
  refine wc_exit ?_
  refine px_then_exit ?_
  refine px_then_exit ?_
  refine px_block_exit ?_
  refine px_then ?_
  refine wc_seq ?_
  refine wc_region ?_
  refine wl_v rfl (val_assign lkc) ?_
  refine wl_nil ?_
  refine px_then ?_
  refine wc_ret ?_
  refine fin1 rfl (res_tmp rfl) (fun w1 hw => ?_)
  have e1 : xs.drop xs.length = [] := by simp
  have e2 : ys.drop xs.length = [] := by simp [hxy]
  exact ⟨by rw [← ht, e1, e2]; rfl, hw.drop rfl⟩

theorem szIntS_c (A : Option Addr) (n c : Nat) (m : Int) (w : World) (h0 : 0 ≤ m ∧ m ≤ 1048576) (hn : n ≤ 9223372036854775807) :
    Calls Tryd.prog 9 #[.slice A n c, .int .i64 m] w fun e w' => e = .returned (.int .i64 (szN m n)) ∧ HP w [] w' := by
  refine calls_entry [] _ Tryd.func9 rfl Tryd.ntmps9 (HP.refl w) (env2 rfl) ?_
  refine wc_seq ?_
  refine wc_region ?_
  refine wl_v rfl (val_assign lkc) ?_
  refine wl_nil ?_
  refine px_then ?_
  refine wc_seq ?_
  refine wc_region ?_
  refine wl_v rfl (val_move (lk rfl)) ?_
  refine wl_v rfl (val_move (lk rfl)) ?_
  refine wl_v rfl (val_len es_22 (lk rfl)) ?_
  refine wl_v rfl ((val_sub (lk rfl) (lk rfl)).eq (by rw [wrap64_in' (by omega)])) ?_
  refine wl_v rfl (val_assign (lk rfl)) ?_
  refine wl_nil ?_
  refine px_then ?_
  refine wc_seq ?_
  refine wc_seq ?_
  refine wc_region ?_
  refine wl_v rfl (val_move (lk rfl)) ?_
  refine wl_v rfl (val_lss (lk rfl) lkc) ?_
  refine wl_nil ?_
  refine px_then ?_
  refine wc_cond (lk rfl) (fun hc0 => ?_) (fun hc0 => ?_)
  · refine wc_seq ?_
    refine wc_region ?_
    refine wl_v rfl (val_assign lkc) ?_
    refine wl_nil ?_
    refine px_then ?_
    refine wc_ret ?_
    refine px_then_ret ?_
    refine fin1 rfl (res_tmp rfl) (fun w1 hw => ?_)
    exact ⟨by rw [szN, if_pos (by simpa using hc0)], hw.drop rfl⟩
  refine wc_skip ?_
  refine px_then ?_
  refine wc_seq ?_
  refine wc_region ?_
  refine wl_v rfl (val_move (lk rfl)) ?_
  refine wl_v rfl (val_assign (lk rfl)) ?_
  refine wl_nil ?_
  refine px_then ?_
  refine wc_ret ?_
  refine fin1 rfl (res_tmp rfl) (fun w1 hw => ?_)
  exact ⟨by rw [szN, if_neg (by simpa using hc0)], hw.drop rfl⟩


theorem fill_step1 (xs : List Int) (cs0 : List Value) (m : Nat) (hm : m < xs.length) (h0 : xs.length = cs0.length) :
    (flat encI (xs.take m) ++ cs0.drop (m * 1)).set (m * 1) (.int .i64 (nth d0I xs m)) = flat encI (xs.take (m + 1)) ++ cs0.drop ((m + 1) * 1) := by
  have hl : (flat encI (xs.take m)).length = m * 1 := by rw [flat_len encI_len, List.length_take]; congr 1; omega
  rw [List.set_append_right _ _ (by omega), hl, Nat.sub_self, take_nth (d := d0I) hm, flat_append, flat_one', List.append_assoc]
  congr 1
  rw [Nat.mul_one, Nat.mul_one, List.drop_eq_getElem_cons (show m < cs0.length by omega), List.set_cons_zero]
  rfl

theorem toIntS_c (xs : List Int) (A : Option Addr) (b o c : Nat) (w : World) (hs : Sl w A b o (flat encI xs)) (hl : xs.length ≤ 2097152) :
    Calls Tryd.prog 12 #[.slice A xs.length c] w fun e w' => ∃ x : Nat × Nat × List Value, ((flat encI (xs) ++ x.2.2).length = x.2.1 * 1 ∧ x.2.1 ≤ 9223372036854775807) ∧ e = .returned (.slice (some ⟨x.1, 0, none⟩) (xs).length x.2.1) ∧ HP w [⟨x.1, true, 3, flat encI (xs) ++ x.2.2⟩] w' := by
  refine calls_entry [] _ Tryd.func12 rfl Tryd.ntmps12 (HP.refl w) (env1 rfl) ?_
  refine wc_seq ?_
  refine wc_region ?_
  refine wl_v rfl (val_assign lkc) ?_
  refine wl_nil ?_
  refine px_then ?_
  refine wc_seq ?_
  refine wc_region ?_
  refine wl_v rfl (val_move (lk rfl)) ?_
  refine wl_v rfl (val_len es_22 (lk rfl)) ?_
  refine wl_make es_22 zc_3 eb_3 (by omega) (by omega) (lk rfl) (lk rfl) rfl fun b1 csb1 hcsb1 => ?_
  refine wl_v rfl (val_assign (lk rfl)) ?_
  refine wl_nil ?_
  refine px_then ?_
  refine wc_seq ?_
  refine wc_seq ?_
  refine wc_region ?_
  refine wl_v rfl (val_assign lkc) ?_
  refine wl_nil ?_
  refine px_then ?_
  refine wc_block ?_
  refine wc_trim (l' := [(0, _), (2, _), (3, _), (4, _)]) ⟨rfl, rfl, rfl, rfl, trivial⟩ ?_
  refine wc_loopl (X := Nat) (fun k => k ≤ xs.length) (fun k => [(4, (true, .int .i64 (k : Nat)))]) (fun k => [⟨b1, true, 3, flat encI (xs.take k) ++ csb1.drop (k * 1)⟩]) (fun k => xs.length - k) 0 (Nat.zero_le _) ⟨rfl, rfl, rfl, rfl, rfl, trivial⟩ (fun _ h => by simpa [flat] using h) ?_
  intro k hk
  refine wc_seq ?_
  refine wc_seq ?_
  refine wc_region ?_
  refine wl_v rfl (val_move (lk rfl)) ?_
  refine wl_v rfl (val_move (lk rfl)) ?_
  refine wl_v rfl (val_len es_22 (lk rfl)) ?_
  refine wl_v rfl (val_lss (lk rfl) (lk rfl)) ?_
  refine wl_nil ?_
  refine px_then ?_
  refine wc_cond (lk rfl) (fun hc0 => ?_) (fun hc0 => ?_)
  · have hlt : k < xs.length := by have := of_decide_eq_true hc0; omega
    refine wc_skip ?_
    refine px_then ?_
    refine wc_seq ?_
    refine wc_block ?_
    refine wc_region ?_
    refine wl_v rfl (val_move (lk rfl)) ?_
    refine wl_v rfl (val_move (lk rfl)) ?_
    refine wl_v rfl (val_move (lk rfl)) ?_
    refine wl_v rfl (val_move (lk rfl)) ?_
    refine wl_v rfl (val_index es_22 (lk rfl) (lk rfl) (fun hG => hs.hd encI_len (by decide) (i := k) (by first | omega | (have h9 := of_decide_eq_true hG; omega) | (simp at hG; omega))) (fun hG => by first | omega | (have h9 := of_decide_eq_true hG; omega) | (simp at hG; omega))) ?_
    refine wl_v rfl (val_load1 t1_3 (lk rfl) (cell_old rfl fun hG => hs.fld encI_len d0I (i := k) (f := 0) (by first | omega | (have h9 := of_decide_eq_true hG; omega) | (simp at hG; omega)) (by decide) rfl)) ?_
    refine wl_v rfl (val_index es_22 (lk rfl) (lk rfl) (fun hG => rfl) (fun hG => hlt)) ?_
    refine wl_store1 0 rfl (lk rfl) (lk rfl) t1_3 rfl (by rw [Nat.blt_eq]; have := fill_len encI_len xs csb1 k (by omega) hcsb1; omega) ?_
    refine wl_nil ?_
    refine px_block ?_
    refine px_then ?_
    refine wc_region ?_
    refine wl_v rfl (val_move (lk rfl)) ?_
    refine wl_v rfl (val_inc (lk rfl) (by omega)) ?_
    refine wl_v rfl (val_assign (lk rfl)) ?_
    refine wl_nil ?_
    have hfs := fill_step1 xs csb1 k hlt (by omega)
    refine px_round (k + 1) (by omega) (by omega) (⟨rfl, rfl, rfl, rfl, rfl, trivial⟩) (fun w1 h => by
      have h' := h.dropN 0 rfl
      simp only [List.drop_zero, List.set_cons_zero, Nat.zero_add] at h'
      rw [hfs] at h'
      exact h')
  have hge : k = xs.length := by have := of_decide_eq_false hc0; omega
  subst hge
  refine wc_exit ?_
  refine px_then_exit ?_
  refine px_then_exit ?_
  refine px_block_exit ?_
  refine px_then ?_
  refine wc_seq ?_
  refine wc_region ?_
  refine wl_v rfl (val_move (lk rfl)) ?_
  refine wl_v rfl (val_assign (lk rfl)) ?_
  refine wl_nil ?_
  refine px_then ?_
  refine wc_ret ?_
  refine fin1 rfl (res_tmp rfl) (fun w1 hw => ?_)
  exact ⟨(b1, xs.length, []), ⟨by rw [List.append_nil, flat_len encI_len], by show xs.length ≤ _; omega⟩, rfl, by
    have h' := hw.dropN 0 rfl
    simpa [List.drop_of_length_le (show csb1.length ≤ xs.length by omega)] using h'⟩

end Go.Proofs.YtlejciainnlfeaaDoor
