/- Accounts: debits and reservations, walked. -/
import Derived.Test.YtdiojflamjppmaaSxT
namespace Go.Proofs.Ytdiojflamjppmaa
open Go.RowKit


theorem nth_set_self {α : Type} {d : α} {rs : List α} {k : Nat} {r : α} (h : k < rs.length) : nth d (rs.set k r) k = r := by simp [nth, List.getD, h]
theorem cutAt_set {rs : List (Int × Int)} {k : Nat} {r : Int × Int} : cutAt (rs.set k r) k = cutAt rs k := by
  unfold cutAt
  rw [List.take_set_of_le (Nat.le_refl k), List.drop_set_of_lt (by omega)]
def Acc.may (a : Acc) (id n : Int) : Bool := a.ok && inRange n 0 (a.held id)
def Acc.deb (a : Acc) (id n : Int) : Acc := if a.may id n && decide (0 < n) then { a with spent := IntKind.i64.wrap (a.spent + n), res := cutR a.res (a.idx id).toNat n } else a
theorem Acc.may_parts {a : Acc} {id n : Int} (h : a.may id n = true) : a.ok = true ∧ 0 ≤ n ∧ n ≤ a.held id := by
  simp only [Acc.may, Bool.and_eq_true, inRange, decide_eq_true_eq] at h
  exact ⟨h.1, h.2.1, h.2.2⟩
theorem Acc.held_of {a : Acc} {id : Int} (h : 0 ≤ a.idx id) : a.held id = (nth d0R a.res (a.idx id).toNat).2 := by rw [Acc.held, if_neg (by omega)]
theorem Acc.held_lt {a : Acc} {id : Int} (h : a.idx id < 0) : a.held id = 0 := by rw [Acc.held, if_pos h]
theorem Acc.idx_of_held {a : Acc} {id : Int} (h : 0 < a.held id) : 0 ≤ a.idx id := by
  rcases Int.lt_or_le (a.idx id) 0 with h1 | h1
  · rw [Acc.held_lt h1] at h; omega
  · exact h1
theorem Acc.amount {a : Acc} {id : Int} (hok : a.ok = true) (h : 0 ≤ a.idx id) : 1 ≤ (nth d0R a.res (a.idx id).toNat).2 ∧ (nth d0R a.res (a.idx id).toNat).2 ≤ 100000 := by
  have h2 := a.idx_lt id h
  have := okRes_pos (Acc.ok_parts hok).2.2.1 (a.idx id).toNat (by omega)
  exact this.2
theorem Acc.hd_parts {a : Acc} (hok : a.ok = true) : (0 ≤ a.total ∧ a.total ≤ 100000) ∧ (0 ≤ a.avail ∧ a.avail ≤ a.total) ∧ (0 ≤ a.spent ∧ a.spent ≤ a.total) := by
  have := (Acc.ok_parts hok).1
  simp only [Acc.hdOk, Bool.and_eq_true, inRange, decide_eq_true_eq] at this
  exact ⟨this.1.1, this.1.2, this.2⟩
theorem deb_no {a : Acc} {id n : Int} (h : a.may id n = false) : a.deb id n = a := by rw [Acc.deb, h]; rfl
theorem deb_zero {a : Acc} {id n : Int} (h : ¬ 0 < n) : a.deb id n = a := by rw [Acc.deb, decide_eq_false h, Bool.and_false]; rfl
theorem deb_pos {a : Acc} {id n : Int} (h : a.may id n = true) (hn : 0 < n) : a.deb id n = { a with spent := IntKind.i64.wrap (a.spent + n), res := cutR a.res (a.idx id).toNat n } := by rw [Acc.deb, h, decide_eq_true hn]; rfl
theorem deb_none {a : Acc} {id n : Int} (h : a.may id n = true) (hi : a.idx id < 0) : a.deb id n = a := by
  have h1 := Acc.may_parts h
  rw [Acc.held_lt hi] at h1
  exact deb_zero (by omega)
theorem deb_drop {a : Acc} {id n : Int} (h : a.may id n = true) (hi : 0 ≤ a.idx id) (hz : IntKind.i64.wrap ((nth d0R a.res (a.idx id).toNat).2 - n) = 0) :
    a.deb id n = { a with spent := IntKind.i64.wrap (a.spent + n), res := cutAt a.res (a.idx id).toNat } := by
  have h1 := Acc.may_parts h
  have h2 := Acc.amount h1.1 hi
  rw [Acc.held_of hi] at h1
  rw [wrap64_in' (by omega)] at hz
  rw [deb_pos h (by omega), cutR, if_neg (by omega)]
theorem deb_keep {a : Acc} {id n : Int} (h : a.may id n = true) (hi : 0 ≤ a.idx id) (hz : IntKind.i64.wrap ((nth d0R a.res (a.idx id).toNat).2 - n) ≠ 0) :
    a.deb id n = { a with spent := IntKind.i64.wrap (a.spent + n), res := a.res.set (a.idx id).toNat ((nth d0R a.res (a.idx id).toNat).1, IntKind.i64.wrap ((nth d0R a.res (a.idx id).toNat).2 - n)) } := by
  have h1 := Acc.may_parts h
  have h2 := Acc.amount h1.1 hi
  have h3 := Acc.hd_parts h1.1
  rw [Acc.held_of hi] at h1
  rw [wrap64_in' (by omega)] at hz
  by_cases hn : 0 < n
  · rw [deb_pos h hn, cutR, if_pos (by omega)]
  · have hn0 : n = 0 := by omega
    subst hn0
    have hlt := a.idx_lt id hi
    rw [deb_zero (by omega), Int.add_zero, Int.sub_zero, wrap64_in' (by omega), wrap64_in' (by omega)]
    have e : a.res.set (a.idx id).toNat ((nth d0R a.res (a.idx id).toNat).1, (nth d0R a.res (a.idx id).toNat).2) = a.res := by
      rw [nth_eq (d := d0R) (show (a.idx id).toNat < a.res.length by omega)]
      exact List.set_getElem_self _
    rw [e]
theorem deb_len (a : Acc) (id n : Int) : (a.deb id n).res.length ≤ a.res.length := by
  unfold Acc.deb
  split
  · rename_i h
    rw [Bool.and_eq_true] at h
    have h1 := Acc.may_parts h.1
    have h2 := of_decide_eq_true h.2
    have h3 := Acc.idx_of_held (show 0 < a.held id by omega)
    have h4 := a.idx_lt id h3
    exact cutR_len (by omega)
  · exact Nat.le_refl _
def lowR : List (Int × Int) → Int → Nat
  | [], _ => 0
  | r :: rs, id => if r.1 < id then lowR rs id + 1 else 0
theorem lowR_le (id : Int) : ∀ rs : List (Int × Int), lowR rs id ≤ rs.length
  | [] => Nat.le_refl _
  | r :: rs => by
    unfold lowR
    split
    · have := lowR_le id rs; simp; omega
    · omega
def addR (rs : List (Int × Int)) (id m : Int) : List (Int × Int) :=
  if decide (lowR rs id < rs.length) && ((nth d0R rs (lowR rs id)).1 == id) then rs.set (lowR rs id) ((nth d0R rs (lowR rs id)).1, IntKind.i64.wrap ((nth d0R rs (lowR rs id)).2 + m))
  else rs.take (lowR rs id) ++ [(id, m)] ++ rs.drop (lowR rs id)
theorem addR_len (rs : List (Int × Int)) (id m : Int) : (addR rs id m).length ≤ rs.length + 1 := by
  unfold addR
  split
  · simp
  · have := lowR_le id rs
    simp only [List.length_append, List.length_take, List.length_drop, List.length_cons, List.length_nil]
    omega
def Acc.can (a : Acc) (id n : Int) : Bool := a.ok && !decide (id < 0) && inRange n 1 100000 && !(a.avail == 0) && !(decide ((8 : Int) ≤ (a.res.length : Nat)) && decide (a.idx id < 0))
def Acc.rsv (a : Acc) (id n : Int) : Acc := if a.can id n then { a with avail := IntKind.i64.wrap (a.avail - imin n a.avail), res := addR a.res id (imin n a.avail) } else a
def Acc.got (a : Acc) (id n : Int) : Int := if a.can id n then imin n a.avail else 0
theorem rsv_len (a : Acc) (id n : Int) : (a.rsv id n).res.length ≤ a.res.length + 1 := by
  unfold Acc.rsv
  split
  · exact addR_len _ _ _
  · omega
theorem imin_comm (a b : Int) : imin a b = imin b a := by unfold imin; split <;> split <;> omega
theorem lowR_step {rs : List (Int × Int)} {id : Int} {k : Nat} (h : k < rs.length) : lowR (rs.drop k) id = if (nth d0R rs k).1 < id then lowR (rs.drop (k + 1)) id + 1 else 0 := by rw [drop_nth (d := d0R) h, lowR]
theorem lowR_end {rs : List (Int × Int)} {id : Int} {k : Nat} (hk : k ≤ rs.length) (h : lowR (rs.drop k) id + k = lowR rs id) (hc : (decide ((k : Int) < (rs.length : Nat)) && decide ((nth d0R rs k).1 < id)) = false) : k = lowR rs id := by
  rw [Bool.and_eq_false_iff] at hc
  rcases hc with hc | hc
  · have := of_decide_eq_false hc
    have : k = rs.length := by omega
    subst this
    simpa [lowR] using h
  · by_cases hl : k < rs.length
    · rw [lowR_step hl, if_neg (of_decide_eq_false hc)] at h; omega
    · have : k = rs.length := by omega
      subst this
      simpa [lowR] using h
/-- in a sorted row the first that is not below is the one that is found, or none is -/
theorem low_idx : ∀ {p : Option Int} {rs : List (Int × Int)} (id : Int) (i : Nat), okRes p rs = true → 
    (if decide (lowR rs id < rs.length) && ((nth d0R rs (lowR rs id)).1 == id) then findI (fun r : Int × Int => r.1 == id) i rs = ((i + lowR rs id : Nat) : Int) else findI (fun r : Int × Int => r.1 == id) i rs = -1)
  | p, [], id, i, _ => by simp [lowR, findI]
  | p, r :: rs, id, i, h => by
    simp only [okRes, Bool.and_eq_true] at h
    have ih := low_idx id (i + 1) h.2
    have above : ∀ {rs : List (Int × Int)} {q : Int} (j : Nat), okRes (some q) rs = true → id ≤ q → findI (fun r : Int × Int => r.1 == id) j rs = -1 := by
      intro rs
      induction rs with
      | nil => intro q j _ _; rfl
      | cons s ss ih2 =>
        intro q j h1 h2
        simp only [okRes, Bool.and_eq_true, decide_eq_true_eq] at h1
        rw [findI, if_neg (by simp; omega)]
        exact ih2 (q := s.1) (j + 1) h1.2 (by omega)
    by_cases h1 : r.1 < id
    · have hlow : lowR (r :: rs) id = lowR rs id + 1 := by rw [lowR, if_pos h1]
      have hf : findI (fun r : Int × Int => r.1 == id) i (r :: rs) = findI (fun r : Int × Int => r.1 == id) (i + 1) rs := by rw [findI, if_neg (by simp; omega)]
      have e1 : nth d0R (r :: rs) (lowR rs id + 1) = nth d0R rs (lowR rs id) := rfl
      have e2 : decide (lowR rs id + 1 < (r :: rs).length) = decide (lowR rs id < rs.length) := by rw [decide_eq_decide]; simp
      rw [hlow, hf, e1, e2]
      split at ih
      · rename_i h3
        rw [if_pos h3, ih]
        congr 1
        omega
      · rename_i h3
        rw [if_neg h3, ih]
    · have hlow : lowR (r :: rs) id = 0 := by rw [lowR, if_neg h1]
      have e1 : nth d0R (r :: rs) 0 = r := rfl
      rw [hlow, e1]
      by_cases h2 : r.1 = id
      · simp [findI, h2]
      · have : id < r.1 := by omega
        rw [if_neg (by simp [h2]), findI, if_neg (by simpa using h2)]
        exact above (q := r.1) (i + 1) h.2 (by omega)
theorem low_found {a : Acc} {id : Int} (hok : a.ok = true) (h : 0 ≤ a.idx id) : (decide (lowR a.res id < a.res.length) && ((nth d0R a.res (lowR a.res id)).1 == id)) = true ∧ (a.idx id).toNat = lowR a.res id := by
  have h1 := low_idx id 0 (Acc.ok_parts hok).2.2.1
  unfold Acc.idx at h ⊢
  split at h1
  · rename_i h2
    refine ⟨h2, ?_⟩
    rw [h1]; omega
  · rw [h1] at h; omega
theorem low_none {a : Acc} {id : Int} (hok : a.ok = true) (h : a.idx id < 0) : (decide (lowR a.res id < a.res.length) && ((nth d0R a.res (lowR a.res id)).1 == id)) = false := by
  have h1 := low_idx id 0 (Acc.ok_parts hok).2.2.1
  unfold Acc.idx at h
  split at h1
  · rw [h1] at h; omega
  · rename_i h2; simpa using h2

theorem sDebit_c (a : Acc) (A : Option Addr) (b o c : Nat) (id n : Int) (w : World) (hs : Sl w A b o (flat encR a.res)) (hl : a.res.length ≤ 1048576) (hc : a.res.length ≤ c) :
    Calls Try.prog 20 #[a.val A c, .int .i64 id, .int .i64 n] w fun e w' => ∃ x : Nat × Nat × List Value, ((flat encR (a.deb id n).res ++ x.2.2).length = x.2.1 * 2 ∧ x.2.1 ≤ 9223372036854775807) ∧ e = .returned (.tuple #[(a.deb id n).val (some ⟨x.1, 0, none⟩) x.2.1, .bool (a.may id n)]) ∧ HP w [⟨x.1, true, 71, flat encR (a.deb id n).res ++ x.2.2⟩] w' := by
  refine calls_entry [] _ Try.func20 rfl Try.ntmps20 (HP.refl w) (env3 rfl) ?_
  refine wc_seq ?_
  refine wc_region ?_
  refine wl_box (lk rfl) rfl fun b1 => ?_
  refine wl_alloc zc_28 rfl fun b2 => ?_
  refine wl_v rfl (val_assign lkc) ?_
  refine wl_nil ?_
  refine px_then ?_
  refine wc_seq ?_
  refine wc_region ?_
  refine wl_v rfl (val_loadB (.tail _ (.head _)) (lk rfl) ag_28) ?_
  refine wl_callx rfl ci_51 (args1 (lk rfl)) (fun w1 hw => sCopyAcc_c a _ _ _ _ w1 (hs.hp hw rfl) hl) (fun _ => rfl) ?_
  rintro ⟨gb10, gc10, gs10⟩ ⟨hgl10, hgc10⟩
  refine wl_alloc zc_28 rfl fun b3 => ?_
  refine wl_storeB 0 rfl (lk rfl) (lk rfl) ag_28 rfl rfl ?_
  refine wl_nil ?_
  refine px_then ?_
  refine wc_seq ?_
  refine wc_seq ?_
  refine wc_region ?_
  refine wl_v rfl (val_loadB (.tail _ (.tail _ (.tail _ (.head _)))) (lk rfl) ag_28) ?_
  refine wl_call gd_none rfl ci_47 (args1 (lk rfl)) (fun hG w1 hw => sIsValidAccount_c a _ _ _ _ w1 (hs.hp hw rfl) hl) ?_
  refine wl_v rfl (val_not (lk rfl)) ?_
  refine wl_v rfl (val_move (lk rfl)) ?_
  refine wl_val (gd_f rfl rfl rfl) rfl (val_move (lk rfl)) ?_
  refine wl_val (gd_f rfl rfl rfl) rfl (val_loadB (.tail _ (.tail _ (.tail _ (.head _)))) (lk rfl) ag_28) ?_
  refine wl_val (gd_f rfl rfl rfl) rfl (val_move (lk rfl)) ?_
  refine wl_call (gd_f rfl rfl rfl) rfl ci_45 (args2 (lkg rfl) (lkg rfl)) (fun hG w1 hw => sReservedFor_c a _ _ _ _ id w1 (hs.hp hw rfl) hl) ?_
  refine wl_call (gd_f rfl rfl rfl) rfl ci_61 (args3 (lkg rfl) lkc (lkg rfl)) (fun hG w1 hw => l1In_c _ _ _ w1) ?_
  refine wl_val (gd_f rfl rfl rfl) rfl (val_not (lkg rfl)) ?_
  refine wl_v rfl (val_or (lk rfl) (lkg rfl)) ?_
  refine wl_nil ?_
  refine px_then ?_
  refine wc_cond (lk rfl) (fun hc0 => ?_) (fun hc0 => ?_)
  · have hmay : a.may id n = false := by rw [Acc.may]; revert hc0; cases a.ok <;> simp
    refine wc_seq ?_
    refine wc_region ?_
    refine wl_v rfl (val_loadB (.head _) (lk rfl) ag_28) ?_
    refine wl_storeB 2 rfl (lk rfl) (lk rfl) ag_28 rfl rfl ?_
    refine wl_v rfl (val_assign lkc) ?_
    refine wl_nil ?_
    refine px_then ?_
    refine wc_ret ?_
    refine px_then_ret ?_
    refine fin2 rfl (res_cell rfl (.tail _ (.tail _ (.head _))) ag_28) (res_tmp rfl) (fun w1 hw => ?_)
    rw [deb_no hmay, hmay]
    exact ⟨(gb10, gc10, gs10), ⟨hgl10, hgc10⟩, rfl, hw.mask [false, true, false, false] rfl⟩
  have hmay : a.may id n = true := by rw [Acc.may]; revert hc0; cases a.ok <;> simp
  refine wc_skip ?_
  refine px_then ?_
  refine wc_seq ?_
  refine wc_seq ?_
  refine wc_region ?_
  refine wl_v rfl (val_move (lk rfl)) ?_
  refine wl_v rfl (val_gtr (lk rfl) lkc) ?_
  refine wl_nil ?_
  refine px_then ?_
  refine wc_cond (lk rfl) (fun hc1 => ?_) (fun hc1 => ?_)
  · have hn := of_decide_eq_true hc1
    have h1 := Acc.may_parts hmay
    have h0 := Acc.idx_of_held (show 0 < a.held id by omega)
    have hlt := a.idx_lt id h0
    refine wc_seq ?_
    refine wc_region ?_
    refine wl_v rfl (val_field fo_28_2 (lk rfl)) ?_
    refine wl_v rfl (val_load1 t1_3 (lk rfl) (cell_own (.tail _ (.tail _ (.tail _ (.head _)))) fun _ => rfl)) ?_
    refine wl_v rfl (val_move (lk rfl)) ?_
    refine wl_v rfl (val_add (lk rfl) (lk rfl)) ?_
    refine wl_v rfl (val_field fo_28_2 (lk rfl)) ?_
    refine wl_store1 0 rfl (lk rfl) (lk rfl) t1_3 rfl (rfl) ?_
    refine wl_nil ?_
    refine px_then ?_
    refine wc_region_aL 8 9 mo_ rfl ?_
    refine wa_take 0 rfl (by kernel_rfl) (by kernel_rfl) (by kernel_rfl) (by kernel_rfl) (fun _ h => h.dropN 0 rfl) gd_none rfl (val_field fo_28_3 (lk rfl)) ?_
    refine wa_take 1 rfl (by kernel_rfl) (by kernel_rfl) (by kernel_rfl) (by kernel_rfl) (fun _ h => h.dropN 0 rfl) gd_none rfl (val_load1 t1_26 (lk rfl) (cell_own (.tail _ (.tail _ (.tail _ (.head _)))) fun _ => rfl)) ?_
    refine wa_take 2 rfl (by kernel_rfl) (by kernel_rfl) (by kernel_rfl) (by kernel_rfl) (fun _ h => h.dropN 0 rfl) gd_none rfl (val_loadB (.tail _ (.tail _ (.tail _ (.head _)))) (lk rfl) ag_28) ?_
    refine wa_take 3 rfl (by kernel_rfl) (by kernel_rfl) (by kernel_rfl) (by kernel_rfl) (fun _ h => h.dropN 0 rfl) gd_none rfl (val_move (lk rfl)) ?_
    refine wa_take 5 rfl (by kernel_rfl) (by kernel_rfl) (by kernel_rfl) (by kernel_rfl) (fun _ h => h.dropN 0 rfl) gd_none rfl (val_move (lk rfl)) ?_
    refine wa_only 4 (by kernel_rfl) rfl ?_
    refine wl_call gd_none rfl ci_53 (args2 (lk rfl) (lk rfl)) (fun hG w1 hw => sFind_c a _ _ _ _ id w1 (hs.hp hw rfl) hl) ?_
    refine wl_nil (px_qn (fun _ h => h.dropN 0 rfl) ?_)
    refine wa_only 6 (by kernel_rfl) rfl ?_
    refine wl_callx rfl ci_52 (args3 (lk rfl) (lk rfl) (lk rfl)) (fun w1 hw => cut_c a.res _ _ _ _ _ n w1 (hs.hp hw rfl) hl ⟨h0, hlt⟩ hc) (fun _ => rfl) ?_
    rintro ⟨gb36, gc36, gs36⟩ ⟨hgl36, hgc36⟩
    refine wl_nil (px_qn (fun _ h => h.dropN 1 rfl) ?_)
    refine wa_take 7 rfl (by kernel_rfl) (by kernel_rfl) (by kernel_rfl) (by kernel_rfl) (fun _ h => h.dropN 1 rfl) gd_none rfl (val_field fo_28_3 (lk rfl)) ?_
    refine wa_only 8 (by kernel_rfl) rfl ?_
    refine wl_store1 1 rfl (lk rfl) (lk rfl) t1_26 rfl (rfl) ?_
    refine wl_nil (px_ql ?_)
    refine wa_done (by kernel_rfl) ?_
    refine px_then ?_
    refine wc_seq ?_
    refine wc_region ?_
    refine wl_v rfl (val_loadB (.tail _ (.head _)) (lk rfl) ag_28) ?_
    refine wl_storeB 3 rfl (lk rfl) (lk rfl) ag_28 rfl rfl ?_
    refine wl_v rfl (val_assign lkc) ?_
    refine wl_nil ?_
    refine px_then ?_
    refine wc_ret ?_
    refine fin2 rfl (res_cell rfl (.tail _ (.tail _ (.tail _ (.head _)))) ag_28) (res_tmp rfl) (fun w1 hw => ?_)
    rw [deb_pos hmay hn, hmay]
    exact ⟨(gb36, gc36, gs36), ⟨hgl36, hgc36⟩, rfl, hw.mask [true, false, false, false, false] rfl⟩
  have hn := of_decide_eq_false hc1
  refine wc_skip ?_
  refine px_then ?_
  refine wc_seq ?_
  refine wc_region ?_
  refine wl_v rfl (val_loadB (.head _) (lk rfl) ag_28) ?_
  refine wl_storeB 2 rfl (lk rfl) (lk rfl) ag_28 rfl rfl ?_
  refine wl_v rfl (val_assign lkc) ?_
  refine wl_nil ?_
  refine px_then ?_
  refine wc_ret ?_
  refine fin2 rfl (res_cell rfl (.tail _ (.tail _ (.head _))) ag_28) (res_tmp rfl) (fun w1 hw => ?_)
  rw [deb_zero hn, hmay]
  exact ⟨(gb10, gc10, gs10), ⟨hgl10, hgc10⟩, rfl, hw.mask [false, true, false, false] rfl⟩

theorem Debit_c (a : Acc) (A : Option Addr) (b o c : Nat) (id n : Int) (w : World) (hs : Sl w A b o (flat encR a.res)) (hl : a.res.length ≤ 1048576) :
    Calls Try.prog 21 #[a.val A c, .int .i64 id, .int .i64 n] w fun e w' => ∃ x : Nat × Nat × List Value, ((flat encR (a.deb id n).res ++ x.2.2).length = x.2.1 * 2 ∧ x.2.1 ≤ 9223372036854775807) ∧ e = .returned (.tuple #[(a.deb id n).val (some ⟨x.1, 0, none⟩) x.2.1, .bool (a.may id n)]) ∧ HP w [⟨x.1, true, 71, flat encR (a.deb id n).res ++ x.2.2⟩] w' := by
  refine calls_entry [] _ Try.func21 rfl Try.ntmps21 (HP.refl w) (env3 rfl) ?_
  refine wc_seq ?_
  refine wc_region ?_
  refine wl_box (lk rfl) rfl fun b1 => ?_
  refine wl_alloc zc_28 rfl fun b2 => ?_
  refine wl_v rfl (val_assign lkc) ?_
  refine wl_nil ?_
  refine px_then ?_
  refine wc_seq ?_
  refine wc_region ?_
  refine wl_v rfl (val_loadB (.tail _ (.head _)) (lk rfl) ag_28) ?_
  refine wl_callx rfl ci_55 (args1 (lk rfl)) (fun w1 hw => copyAcc_c a _ _ _ _ w1 (hs.hp hw rfl) hl) (fun _ => rfl) ?_
  rintro ⟨gb11, gc11, gs11⟩ ⟨hgl11, hgc11⟩
  refine wl_alloc zc_28 rfl fun b3 => ?_
  refine wl_storeB 0 rfl (lk rfl) (lk rfl) ag_28 rfl rfl ?_
  refine wl_nil ?_
  refine px_then ?_
  refine wc_seq ?_
  refine wc_seq ?_
  refine wc_region ?_
  refine wl_v rfl (val_loadB (.tail _ (.tail _ (.tail _ (.head _)))) (lk rfl) ag_28) ?_
  refine wl_call gd_none rfl ci_42 (args1 (lk rfl)) (fun hG w1 hw => IsValidAccount_c a _ _ _ _ w1 (hs.hp hw rfl) hl) ?_
  refine wl_v rfl (val_not (lk rfl)) ?_
  refine wl_v rfl (val_move (lk rfl)) ?_
  refine wl_val (gd_f rfl rfl rfl) rfl (val_move (lk rfl)) ?_
  refine wl_val (gd_f rfl rfl rfl) rfl (val_loadB (.tail _ (.tail _ (.tail _ (.head _)))) (lk rfl) ag_28) ?_
  refine wl_val (gd_f rfl rfl rfl) rfl (val_move (lk rfl)) ?_
  refine wl_call (gd_f rfl rfl rfl) rfl ci_43 (args2 (lkg rfl) (lkg rfl)) (fun hG w1 hw => ReservedFor_c a _ _ _ _ id w1 (hs.hp hw rfl) hl) ?_
  refine wl_call (gd_f rfl rfl rfl) rfl ci_62 (args3 (lkg rfl) lkc (lkg rfl)) (fun hG w1 hw => InRange_c _ _ _ w1) ?_
  refine wl_val (gd_f rfl rfl rfl) rfl (val_not (lkg rfl)) ?_
  refine wl_v rfl (val_or (lk rfl) (lkg rfl)) ?_
  refine wl_nil ?_
  refine px_then ?_
  refine wc_cond (lk rfl) (fun hc0 => ?_) (fun hc0 => ?_)
  · have hmay : a.may id n = false := by rw [Acc.may]; revert hc0; cases a.ok <;> simp
    refine wc_seq ?_
    refine wc_region ?_
    refine wl_v rfl (val_loadB (.head _) (lk rfl) ag_28) ?_
    refine wl_storeB 2 rfl (lk rfl) (lk rfl) ag_28 rfl rfl ?_
    refine wl_v rfl (val_assign lkc) ?_
    refine wl_nil ?_
    refine px_then ?_
    refine wc_ret ?_
    refine px_then_ret ?_
    refine fin2 rfl (res_cell rfl (.tail _ (.tail _ (.head _))) ag_28) (res_tmp rfl) (fun w1 hw => ?_)
    rw [deb_no hmay, hmay]
    exact ⟨(gb11, gc11, gs11), ⟨hgl11, hgc11⟩, rfl, hw.mask [false, true, false, false] rfl⟩
  have hmay : a.may id n = true := by rw [Acc.may]; revert hc0; cases a.ok <;> simp
  refine wc_skip ?_
  refine px_then ?_
  refine wc_seq ?_
  refine wc_region ?_
  refine wl_v rfl (val_loadB (.head _) (lk rfl) ag_28) ?_
  refine wl_v rfl (val_move (lk rfl)) ?_
  refine wl_call gd_none rfl ci_56 (args2 (lk rfl) (lk rfl)) (fun hG w1 hw => Find_c a _ _ _ _ id w1 (Sl.own hw (.tail _ (.head _))) hl) ?_
  refine wl_v rfl (val_assign (lk rfl)) ?_
  refine wl_nil ?_
  refine px_then ?_
  refine wc_seq ?_
  refine wc_seq ?_
  refine wc_region ?_
  refine wl_v rfl (val_move (lk rfl)) ?_
  refine wl_v rfl (val_lss (lk rfl) lkc) ?_
  refine wl_nil ?_
  refine px_then ?_
  refine wc_cond (lk rfl) (fun hc1 => ?_) (fun hc1 => ?_)
  · have hi := of_decide_eq_true hc1
    refine wc_seq ?_
    refine wc_region ?_
    refine wl_v rfl (val_loadB (.head _) (lk rfl) ag_28) ?_
    refine wl_storeB 2 rfl (lk rfl) (lk rfl) ag_28 rfl rfl ?_
    refine wl_v rfl (val_assign lkc) ?_
    refine wl_nil ?_
    refine px_then ?_
    refine wc_ret ?_
    refine px_then_ret ?_
    refine fin2 rfl (res_cell rfl (.tail _ (.tail _ (.head _))) ag_28) (res_tmp rfl) (fun w1 hw => ?_)
    rw [deb_none hmay hi, hmay]
    exact ⟨(gb11, gc11, gs11), ⟨hgl11, hgc11⟩, rfl, hw.mask [false, true, false, false] rfl⟩
  have h0 : 0 ≤ a.idx id := by have := of_decide_eq_false hc1; omega
  have hlt := a.idx_lt id h0
  have hltn : (a.idx id).toNat < a.res.length := by omega
  have e1 : (flat encR a.res ++ gs11).set (0 + (a.idx id).toNat * 2 + 1) (.int .i64 (IntKind.i64.wrap ((nth d0R a.res (a.idx id).toNat).2 - n))) = flat encR (a.res.set (a.idx id).toNat ((nth d0R a.res (a.idx id).toNat).1, IntKind.i64.wrap ((nth d0R a.res (a.idx id).toNat).2 - n))) ++ gs11 := by rw [Nat.zero_add]; exact flat_set encR_len d0R a.res (a.idx id).toNat 1 _ _ gs11 hltn (by decide) rfl
  refine wc_skip ?_
  refine px_then ?_
  refine wc_seq ?_
  refine wc_region ?_
  refine wl_v rfl (val_field fo_28_3 (lk rfl)) ?_
  refine wl_v rfl (val_load1 t1_26 (lk rfl) (cell_own (.head _) fun _ => rfl)) ?_
  refine wl_v rfl (val_move (lk rfl)) ?_
  refine wl_v rfl (val_indexI es_26 (lk rfl) (lk rfl) (fun _ => rfl) (fun _ => ⟨h0, hlt⟩)) ?_
  refine wl_v rfl (val_field fo_71_1 (lk rfl)) ?_
  refine wl_v rfl (val_load1 t1_3 (lk rfl) (own_fld (.tail _ (.head _)) encR_len d0R (i := (a.idx id).toNat) (f := 1) (fun _ => by omega) rfl)) ?_
  refine wl_v rfl (val_move (lk rfl)) ?_
  refine wl_v rfl (val_sub (lk rfl) (lk rfl)) ?_
  refine wl_v rfl (val_indexI es_26 (lk rfl) (lk rfl) (fun _ => rfl) (fun _ => ⟨h0, hlt⟩)) ?_
  refine wl_v rfl (val_field fo_71_1 (lk rfl)) ?_
  refine wl_store1 1 (show _ = some (Blk.mk gb11 true 71 (flat encR a.res ++ gs11)) from rfl) (lk rfl) (lk rfl) t1_3 rfl (by rw [Nat.blt_eq, List.length_append, flat_len encR_len]; omega) ?_
  refine wl_nil ?_
  rw [e1]
  rw [show a.res.length = (a.res.set (a.idx id).toNat ((nth d0R a.res (a.idx id).toNat).1, IntKind.i64.wrap ((nth d0R a.res (a.idx id).toNat).2 - n))).length from (List.length_set).symm]
  refine px_then ?_
  refine wc_seq ?_
  refine wc_region ?_
  refine wl_v rfl (val_field fo_28_2 (lk rfl)) ?_
  refine wl_v rfl (val_load1 t1_3 (lk rfl) (cell_own (.head _) fun _ => rfl)) ?_
  refine wl_v rfl (val_move (lk rfl)) ?_
  refine wl_v rfl (val_add (lk rfl) (lk rfl)) ?_
  refine wl_v rfl (val_field fo_28_2 (lk rfl)) ?_
  refine wl_store1 0 rfl (lk rfl) (lk rfl) t1_3 rfl (rfl) ?_
  refine wl_nil ?_
  refine px_then ?_
  refine wc_seq ?_
  refine wc_seq ?_
  refine wc_region ?_
  refine wl_v rfl (val_field fo_28_3 (lk rfl)) ?_
  refine wl_v rfl (val_load1 t1_26 (lk rfl) (cell_own (.head _) fun _ => rfl)) ?_
  refine wl_v rfl (val_move (lk rfl)) ?_
  refine wl_v rfl (val_indexI es_26 (lk rfl) (lk rfl) (fun _ => rfl) (fun _ => ⟨h0, by rw [List.length_set]; exact hlt⟩)) ?_
  refine wl_v rfl (val_field fo_71_1 (lk rfl)) ?_
  refine wl_v rfl (val_load1 t1_3 (lk rfl) (own_fld (rs := (a.res.set (a.idx id).toNat ((nth d0R a.res (a.idx id).toNat).1, IntKind.i64.wrap ((nth d0R a.res (a.idx id).toNat).2 - n)))) (.tail _ (.head _)) encR_len d0R (i := (a.idx id).toNat) (f := 1) (fun _ => by rw [List.length_set]; omega) rfl)) ?_
  refine wl_v rfl (val_eql (lk rfl) lkc) ?_
  refine wl_nil ?_
  refine px_then ?_
  refine wc_cond (lk rfl) (fun hc2 => ?_) (fun hc2 => ?_)
  · have hz : IntKind.i64.wrap ((nth d0R a.res (a.idx id).toNat).2 - n) = 0 := by rw [nth_set_self hltn] at hc2; simpa using hc2
    refine wc_region ?_
    refine wl_v rfl (val_loadB (.head _) (lk rfl) ag_28) ?_
    refine wl_v rfl (val_move (lk rfl)) ?_
    refine wl_callx rfl ci_57 (args2 (lk rfl) (lk rfl)) (fun w1 hw => dropRes_c { a with spent := IntKind.i64.wrap (a.spent + n), res := (a.res.set (a.idx id).toNat ((nth d0R a.res (a.idx id).toNat).1, IntKind.i64.wrap ((nth d0R a.res (a.idx id).toNat).2 - n))) } _ _ _ _ _ w1 (Sl.own hw (.tail _ (.head _))) (by rw [List.length_set]; exact hl) ⟨h0, by rw [List.length_set]; exact hlt⟩ (by rw [List.length_set]; exact cap_le encR_len (by decide) hgl11)) (fun _ => rfl) ?_
    rintro ⟨gb54, gc54, gs54⟩ ⟨hgl54, hgc54⟩
    refine wl_storeB 1 rfl (lk rfl) (lk rfl) ag_28 rfl rfl ?_
    refine wl_nil ?_
    refine px_then ?_
    refine wc_seq ?_
    refine wc_region ?_
    refine wl_v rfl (val_loadB (.tail _ (.head _)) (lk rfl) ag_28) ?_
    refine wl_storeB 3 rfl (lk rfl) (lk rfl) ag_28 rfl rfl ?_
    refine wl_v rfl (val_assign lkc) ?_
    refine wl_nil ?_
    refine px_then ?_
    refine wc_ret ?_
    refine fin2 rfl (res_cell rfl (.tail _ (.tail _ (.tail _ (.head _)))) ag_28) (res_tmp rfl) (fun w1 hw => ?_)
    rw [deb_drop hmay h0 hz, hmay]
    rw [cutAt_set] at hgl54 hw
    exact ⟨(gb54, gc54, gs54), ⟨hgl54, hgc54⟩, by simp only [cutAt_set]; rfl, hw.mask [true, false, false, false, false] rfl⟩
  have hz : IntKind.i64.wrap ((nth d0R a.res (a.idx id).toNat).2 - n) ≠ 0 := by rw [nth_set_self hltn] at hc2; simpa using hc2
  refine wc_skip ?_
  refine px_then ?_
  refine wc_seq ?_
  refine wc_region ?_
  refine wl_v rfl (val_loadB (.head _) (lk rfl) ag_28) ?_
  refine wl_storeB 2 rfl (lk rfl) (lk rfl) ag_28 rfl rfl ?_
  refine wl_v rfl (val_assign lkc) ?_
  refine wl_nil ?_
  refine px_then ?_
  refine wc_ret ?_
  refine fin2 rfl (res_cell rfl (.tail _ (.tail _ (.head _))) ag_28) (res_tmp rfl) (fun w1 hw => ?_)
  rw [deb_keep hmay h0 hz, hmay]
  exact ⟨(gb11, gc11, gs11), ⟨by rw [← e1, List.length_set]; exact hgl11, hgc11⟩, rfl, hw.mask [false, true, false, false] rfl⟩

theorem add_c (rs : List (Int × Int)) (A : Option Addr) (b o c : Nat) (id m : Int) (w : World) (hs : Sl w A b o (flat encR rs)) (hl : rs.length ≤ 1048576) (hc : rs.length ≤ c) :
    Calls Try.prog 63 #[.slice A rs.length c, .int .i64 id, .int .i64 m] w fun e w' => ∃ x : Nat × Nat × List Value, ((flat encR (addR rs id m) ++ x.2.2).length = x.2.1 * 2 ∧ x.2.1 ≤ 9223372036854775807) ∧ e = .returned (.slice (some ⟨x.1, 0, none⟩) (addR rs id m).length x.2.1) ∧ HP w [⟨x.1, true, 71, flat encR (addR rs id m) ++ x.2.2⟩] w' := by
  refine calls_entry [] _ Try.func63 rfl Try.ntmps63 (HP.refl w) (env3 rfl) ?_
  refine wc_seq ?_
  refine wc_region ?_
  refine wl_v rfl (val_assign lkc) ?_
  refine wl_nil ?_
  refine px_then ?_
  refine wc_seq ?_
  refine wc_region ?_
  refine wl_v rfl (val_assign lkc) ?_
  refine wl_nil ?_
  refine px_then ?_
  refine wc_seq ?_
  refine wc_block ?_
  refine wc_trim (l' := [(0, _), (1, _), (2, _), (6, _), (7, _)]) ⟨rfl, rfl, rfl, rfl, rfl, trivial⟩ ?_
  refine wc_loop0 (X := Nat) (fun k => k ≤ rs.length ∧ lowR (rs.drop k) id + k = lowR rs id) (fun k => [(7, (true, .int .i64 (k : Nat)))]) (fun k => rs.length - k) 0 (⟨Nat.zero_le _, rfl⟩) ⟨rfl, rfl, rfl, rfl, rfl, rfl, trivial⟩ ?_
  rintro k ⟨hk, ht⟩
  refine wc_seq ?_
  refine wc_seq ?_
  refine wc_region ?_
  refine wl_v rfl (val_move (lk rfl)) ?_
  refine wl_v rfl (val_move (lk rfl)) ?_
  refine wl_v rfl (val_len es_26 (lk rfl)) ?_
  refine wl_v rfl (val_lss (lk rfl) (lk rfl)) ?_
  refine wl_v rfl (val_move (lk rfl)) ?_
  refine wl_val (gd_t rfl rfl rfl) rfl (val_move (lk rfl)) ?_
  refine wl_val (gd_t rfl rfl rfl) rfl (val_move (lk rfl)) ?_
  refine wl_val (gd_t rfl rfl rfl) rfl (val_index es_26 (lkg rfl) (lkg rfl) (fun hG => hs.hd encR_len (by decide) (i := k) (by have h9 := of_decide_eq_true hG; omega)) (fun hG => by have h9 := of_decide_eq_true hG; omega)) ?_
  refine wl_val (gd_t rfl rfl rfl) rfl (val_field fo_71_0 (lkg rfl)) ?_
  refine wl_val (gd_t rfl rfl rfl) rfl (val_load1 t1_3 (lkg rfl) (cell_old rfl fun hG => hs.fld encR_len d0R (i := k) (f := 0) (by have h9 := of_decide_eq_true hG; omega) (by decide) rfl)) ?_
  refine wl_val (gd_t rfl rfl rfl) rfl (val_move (lk rfl)) ?_
  refine wl_val (gd_t rfl rfl rfl) rfl (val_lss (lkg rfl) (lkg rfl)) ?_
  refine wl_v rfl (val_and (lk rfl) (lkg rfl)) ?_
  refine wl_nil ?_
  refine px_then ?_
  refine wc_cond (lk rfl) (fun hc0 => ?_) (fun hc0 => ?_)
  · have hlt : k < rs.length := by have h9 := of_decide_eq_true (Bool.and_eq_true _ _ ▸ hc0 : _ ∧ _).1; omega
    have hlo : (nth d0R rs k).1 < id := of_decide_eq_true (Bool.and_eq_true _ _ ▸ hc0 : _ ∧ _).2
    refine wc_skip ?_
    refine px_then ?_
    refine wc_block ?_
    refine wc_region ?_
    refine wl_v rfl (val_move (lk rfl)) ?_
    refine wl_v rfl (val_inc (lk rfl) (by omega)) ?_
    refine wl_v rfl (val_assign (lk rfl)) ?_
    refine wl_nil ?_
    refine px_block ?_
    refine px_round0 (k + 1) (⟨by omega, by rw [← ht, lowR_step hlt, if_pos hlo]; omega⟩) (by omega) (⟨rfl, rfl, rfl, rfl, rfl, rfl, trivial⟩) (fun _ h => h.dropN 0 rfl)
  obtain rfl := lowR_end hk ht hc0
  have hle := lowR_le id rs
  refine wc_exit ?_
  refine px_then_exit ?_
  refine px_then_exit ?_
  refine px_block_exit ?_
  refine px_then ?_
  refine wc_seq ?_
  refine wc_seq ?_
  refine wc_region ?_
  refine wl_v rfl (val_move (lk rfl)) ?_
  refine wl_v rfl (val_move (lk rfl)) ?_
  refine wl_v rfl (val_len es_26 (lk rfl)) ?_
  refine wl_v rfl (val_lss (lk rfl) (lk rfl)) ?_
  refine wl_v rfl (val_move (lk rfl)) ?_
  refine wl_val (gd_t rfl rfl rfl) rfl (val_move (lk rfl)) ?_
  refine wl_val (gd_t rfl rfl rfl) rfl (val_move (lk rfl)) ?_
  refine wl_val (gd_t rfl rfl rfl) rfl (val_index es_26 (lkg rfl) (lkg rfl) (fun hG => hs.hd encR_len (by decide) (i := (lowR rs id)) (by have h9 := of_decide_eq_true hG; omega)) (fun hG => by have h9 := of_decide_eq_true hG; omega)) ?_
  refine wl_val (gd_t rfl rfl rfl) rfl (val_field fo_71_0 (lkg rfl)) ?_
  refine wl_val (gd_t rfl rfl rfl) rfl (val_load1 t1_3 (lkg rfl) (cell_old rfl fun hG => hs.fld encR_len d0R (i := (lowR rs id)) (f := 0) (by have h9 := of_decide_eq_true hG; omega) (by decide) rfl)) ?_
  refine wl_val (gd_t rfl rfl rfl) rfl (val_move (lk rfl)) ?_
  refine wl_val (gd_t rfl rfl rfl) rfl (val_eql (lkg rfl) (lkg rfl)) ?_
  refine wl_v rfl (val_and (lk rfl) (lkg rfl)) ?_
  refine wl_nil ?_
  refine px_then ?_
  refine wc_cond (lk rfl) (fun hc1 => ?_) (fun hc1 => ?_)
  · have hlt : lowR rs id < rs.length := by have h9 := of_decide_eq_true (Bool.and_eq_true _ _ ▸ hc1 : _ ∧ _).1; omega
    have hadd : addR rs id m = rs.set (lowR rs id) ((nth d0R rs (lowR rs id)).1, IntKind.i64.wrap ((nth d0R rs (lowR rs id)).2 + m)) := by
      have h9 := hc1
      rw [show decide (((lowR rs id : Nat) : Int) < (rs.length : Nat)) = decide (lowR rs id < rs.length) by rw [decide_eq_decide]; omega] at h9
      rw [addR, h9]; rfl
    refine wc_seq ?_
    refine wc_region ?_
    refine wl_bslice parts0 bsl_26_0_ rfl fun b1 => ?_
    refine wl_v rfl (val_move (lk rfl)) ?_
    refine wl_appendR (sp := []) encR_len (by decide) [] rs 0 es_26 zc_71 rfl eb_71 (lk rfl) rfl rfl (by decide) (lk rfl) (fun _ hw => hs.hp hw rfl) (by first | omega | (simp <;> omega)) (by first | omega | (simp <;> omega)) rfl fun a39 ac39 as39 hal39 ham39 => ?_
    refine wl_v rfl (val_assign (lk rfl)) ?_
    refine wl_nil ?_
    refine px_then ?_
    refine wc_seq ?_
    refine wc_region ?_
    refine wl_v rfl (val_move (lk rfl)) ?_
    refine wl_v rfl (val_move (lk rfl)) ?_
    refine wl_v rfl (val_move (lk rfl)) ?_
    refine wl_v rfl (val_move (lk rfl)) ?_
    refine wl_v rfl (val_index es_26 (lk rfl) (lk rfl) (fun hG => rfl) (fun hG => hlt)) ?_
    refine wl_v rfl (val_field fo_71_1 (lk rfl)) ?_
    refine wl_v rfl (val_load1 t1_3 (lk rfl) (own_fld (.head _) encR_len d0R (i := lowR rs id) (f := 1) (fun _ => hlt) rfl)) ?_
    refine wl_v rfl (val_move (lk rfl)) ?_
    refine wl_v rfl (val_add (lk rfl) (lk rfl)) ?_
    refine wl_v rfl (val_index es_26 (lk rfl) (lk rfl) (fun hG => rfl) (fun hG => hlt)) ?_
    refine wl_v rfl (val_field fo_71_1 (lk rfl)) ?_
    refine wl_store1 0 (show _ = some (Blk.mk a39 true 71 (flat encR rs ++ as39)) from rfl) (lk rfl) (lk rfl) t1_3 rfl (by rw [Nat.blt_eq, List.length_append, flat_len encR_len]; omega) ?_
    refine wl_nil ?_
    refine px_then ?_
    refine wc_seq ?_
    refine wc_region ?_
    refine wl_v rfl (val_move (lk rfl)) ?_
    refine wl_v rfl (val_assign (lk rfl)) ?_
    refine wl_nil ?_
    refine px_then ?_
    refine wc_ret ?_
    refine px_then_ret ?_
    refine fin1 rfl (res_tmp rfl) (fun w1 hw => ?_)
    have e1 : (flat encR rs ++ as39).set (0 + lowR rs id * 2 + 1) (.int .i64 (IntKind.i64.wrap ((nth d0R rs (lowR rs id)).2 + m))) = flat encR (rs.set (lowR rs id) ((nth d0R rs (lowR rs id)).1, IntKind.i64.wrap ((nth d0R rs (lowR rs id)).2 + m))) ++ as39 := by rw [Nat.zero_add]; exact flat_set encR_len d0R rs (lowR rs id) 1 _ _ as39 hlt (by decide) rfl
    rw [hadd]
    have h2 := hw.mask [true] rfl
    refine ⟨(a39, ac39, as39), ⟨by rw [← e1, List.length_set]; exact hal39, ham39⟩, by rw [List.length_set]; rfl, by rw [← e1]; exact h2⟩
  have hadd : addR rs id m = rs.take (lowR rs id) ++ [(id, m)] ++ rs.drop (lowR rs id) := by
    have h9 := hc1
    rw [show decide (((lowR rs id : Nat) : Int) < (rs.length : Nat)) = decide (lowR rs id < rs.length) by rw [decide_eq_decide]; omega] at h9
    rw [addR, h9]; rfl
  refine wc_skip ?_
  refine px_then ?_
  refine wc_seq ?_
  refine wc_region_a0 15 mo_ rfl ?_
  refine wa_take 1 rfl (by kernel_rfl) (by kernel_rfl) (by kernel_rfl) (by kernel_rfl) (fun _ h => h.dropN 0 rfl) gd_none rfl (val_move (lk rfl)) ?_
  refine wa_take 2 rfl (by kernel_rfl) (by kernel_rfl) (by kernel_rfl) (by kernel_rfl) (fun _ h => h.dropN 0 rfl) gd_none rfl (val_move (lk rfl)) ?_
  refine wa_take 3 rfl (by kernel_rfl) (by kernel_rfl) (by kernel_rfl) (by kernel_rfl) (fun _ h => h.dropN 0 rfl) gd_none rfl ((val_slice_all es_26 (lk rfl) none (some (.tmp 54)) 0 (lowR rs id) rfl ⟨_, lk rfl⟩ (fun _ => Nat.zero_le _) (fun _ => by omega)).eq (show _ = Value.slice (if c = 0 then A else (A).map (·.add (0 * 2))) (rs.take (lowR rs id)).length (c - 0) by rw [List.length_take, Nat.min_eq_left (by omega)]; rfl)) ?_
  refine wa_take 5 rfl (by kernel_rfl) (by kernel_rfl) (by kernel_rfl) (by kernel_rfl) (fun _ h => h.dropN 0 rfl) gd_none rfl (val_move (lk rfl)) ?_
  refine wa_take 6 rfl (by kernel_rfl) (by kernel_rfl) (by kernel_rfl) (by kernel_rfl) (fun _ h => h.dropN 0 rfl) gd_none rfl (val_move (lk rfl)) ?_
  refine wa_take 7 rfl (by kernel_rfl) (by kernel_rfl) (by kernel_rfl) (by kernel_rfl) (fun _ h => h.dropN 0 rfl) gd_none rfl (val_buildP (partsC (lk rfl) (partsC (lk rfl) parts0)) (bl_71_0_1 _ _)) ?_
  refine wa_take 10 rfl (by kernel_rfl) (by kernel_rfl) (by kernel_rfl) (by kernel_rfl) (fun _ h => h.dropN 0 rfl) gd_none rfl (val_move (lk rfl)) ?_
  refine wa_take 11 rfl (by kernel_rfl) (by kernel_rfl) (by kernel_rfl) (by kernel_rfl) (fun _ h => h.dropN 0 rfl) gd_none rfl (val_move (lk rfl)) ?_
  refine wa_take 12 rfl (by kernel_rfl) (by kernel_rfl) (by kernel_rfl) (by kernel_rfl) (fun _ h => h.dropN 0 rfl) gd_none rfl ((val_slice_all es_26 (lk rfl) (some (.tmp 63)) none (lowR rs id) rs.length ⟨_, lk rfl⟩ rfl (fun _ => by omega) (fun _ => by omega)).eq (show _ = Value.slice (if c = lowR rs id then A else (A).map (·.add ((lowR rs id) * 2))) (rs.drop (lowR rs id)).length (c - (lowR rs id)) by rw [List.length_drop])) ?_
  refine wa_two 0 8 (by kernel_rfl) rfl rfl ?_ ?_
  · refine wl_bslice parts0 bsl_26_0_ rfl fun b2 => ?_
    refine wl_nil (px_qn (fun _ h => h.dropN 1 rfl) ?_)
    refine wa_two 4 8 (by kernel_rfl) rfl rfl ?_ ?_
    · refine wl_appendR (sp := []) encR_len (by decide) [] (rs.take (lowR rs id)) 0 es_26 zc_71 rfl eb_71 (lk rfl) rfl rfl (by decide) (lk rfl) (fun _ hw => (((hs.hp hw rfl).sub0).take (lowR rs id * 2)).eq (flat_take encR_len rs (lowR rs id) (by omega))) (by first | omega | (simp <;> omega)) (by first | omega | (simp <;> omega)) rfl fun a56 ac56 as56 hal56 ham56 => ?_
      refine wl_nil (px_qn (fun _ h => h.dropN 1 rfl) ?_)
      refine wa_only 8 (by kernel_rfl) rfl ?_
      refine wl_bslice (partsC (lk rfl) parts0) (bsl_26_1_0 _ _) rfl fun b3 => ?_
      refine wl_nil (px_qn (fun _ h => h.dropN 2 rfl) ?_)
      refine wa_only 9 (by kernel_rfl) rfl ?_
      refine wl_appendR encR_len (by decide) ([] ++ (rs.take (lowR rs id))) [(id, m)] 1 es_26 zc_71 rfl eb_71 (lk rfl) rfl hal56 ham56 (lk rfl) (fun _ hw => Sl.own' (vs := flat encR [(id, m)]) hw (.head _)) (by first | omega | (simp <;> omega)) (by first | omega | (simp <;> omega)) rfl fun a61 ac61 as61 hal61 ham61 => ?_
      refine wl_nil (px_qn (fun _ h => h.dropN 2 rfl) ?_)
      refine wa_only 13 (by kernel_rfl) rfl ?_
      refine wl_appendR encR_len (by decide) (([] ++ (rs.take (lowR rs id))) ++ [(id, m)]) (rs.drop (lowR rs id)) 0 es_26 zc_71 rfl eb_71 (lk rfl) rfl hal61 ham61 (lk rfl) (fun _ hw => ((hs.hp hw rfl).sub (by rw [flat_len encR_len]; omega)).eq (flat_drop encR_len rs (lowR rs id) (by omega))) (by first | omega | (simp <;> omega)) (by first | omega | (simp <;> omega)) rfl fun a65 ac65 as65 hal65 ham65 => ?_
      refine wl_nil (px_qn (fun _ h => h.dropN 2 rfl) ?_)
      refine wa_take 14 rfl (by kernel_rfl) (by kernel_rfl) (by kernel_rfl) (by kernel_rfl) (fun _ h => h.dropN 2 rfl) gd_none rfl (val_assign (lk rfl)) ?_
      refine wa_done (by kernel_rfl) ?_
      refine px_then ?_
      refine wc_ret ?_
      refine fin1 rfl (res_tmp rfl) (fun w1 hw => ?_)
      rw [hadd]
      exact ⟨(a65, ac65, as65), ⟨hal65, ham65⟩, rfl, hw.mask [true, false] rfl⟩
    · refine wl_bslice (partsC (lk rfl) parts0) (bsl_26_1_0 _ _) rfl fun b4 => ?_
      refine wl_nil (px_qn (fun _ h => h.dropN 2 rfl) ?_)
      refine wa_only 4 (by kernel_rfl) rfl ?_
      refine wl_appendR (sp := []) encR_len (by decide) [] (rs.take (lowR rs id)) 1 es_26 zc_71 rfl eb_71 (lk rfl) rfl rfl (by decide) (lk rfl) (fun _ hw => (((hs.hp hw rfl).sub0).take (lowR rs id * 2)).eq (flat_take encR_len rs (lowR rs id) (by omega))) (by first | omega | (simp <;> omega)) (by first | omega | (simp <;> omega)) rfl fun a56 ac56 as56 hal56 ham56 => ?_
      refine wl_nil (px_qn (fun _ h => h.dropN 2 rfl) ?_)
      refine wa_only 9 (by kernel_rfl) rfl ?_
      refine wl_appendR encR_len (by decide) ([] ++ (rs.take (lowR rs id))) [(id, m)] 0 es_26 zc_71 rfl eb_71 (lk rfl) rfl hal56 ham56 (lk rfl) (fun _ hw => Sl.own' (vs := flat encR [(id, m)]) hw (.tail _ (.head _))) (by first | omega | (simp <;> omega)) (by first | omega | (simp <;> omega)) rfl fun a61 ac61 as61 hal61 ham61 => ?_
      refine wl_nil (px_qn (fun _ h => h.dropN 2 rfl) ?_)
      refine wa_only 13 (by kernel_rfl) rfl ?_
      refine wl_appendR encR_len (by decide) (([] ++ (rs.take (lowR rs id))) ++ [(id, m)]) (rs.drop (lowR rs id)) 0 es_26 zc_71 rfl eb_71 (lk rfl) rfl hal61 ham61 (lk rfl) (fun _ hw => ((hs.hp hw rfl).sub (by rw [flat_len encR_len]; omega)).eq (flat_drop encR_len rs (lowR rs id) (by omega))) (by first | omega | (simp <;> omega)) (by first | omega | (simp <;> omega)) rfl fun a65 ac65 as65 hal65 ham65 => ?_
      refine wl_nil (px_qn (fun _ h => h.dropN 2 rfl) ?_)
      refine wa_take 14 rfl (by kernel_rfl) (by kernel_rfl) (by kernel_rfl) (by kernel_rfl) (fun _ h => h.dropN 2 rfl) gd_none rfl (val_assign (lk rfl)) ?_
      refine wa_done (by kernel_rfl) ?_
      refine px_then ?_
      refine wc_ret ?_
      refine fin1 rfl (res_tmp rfl) (fun w1 hw => ?_)
      rw [hadd]
      exact ⟨(a65, ac65, as65), ⟨hal65, ham65⟩, rfl, hw.mask [true, false] rfl⟩
  · refine wl_bslice (partsC (lk rfl) parts0) (bsl_26_1_0 _ _) rfl fun b5 => ?_
    refine wl_nil (px_qn (fun _ h => h.dropN 1 rfl) ?_)
    refine wa_only 0 (by kernel_rfl) rfl ?_
    refine wl_bslice parts0 bsl_26_0_ rfl fun b6 => ?_
    refine wl_nil (px_qn (fun _ h => h.dropN 2 rfl) ?_)
    refine wa_only 4 (by kernel_rfl) rfl ?_
    refine wl_appendR (sp := []) encR_len (by decide) [] (rs.take (lowR rs id)) 0 es_26 zc_71 rfl eb_71 (lk rfl) rfl rfl (by decide) (lk rfl) (fun _ hw => (((hs.hp hw rfl).sub0).take (lowR rs id * 2)).eq (flat_take encR_len rs (lowR rs id) (by omega))) (by first | omega | (simp <;> omega)) (by first | omega | (simp <;> omega)) rfl fun a56 ac56 as56 hal56 ham56 => ?_
    refine wl_nil (px_qn (fun _ h => h.dropN 2 rfl) ?_)
    refine wa_only 9 (by kernel_rfl) rfl ?_
    refine wl_appendR encR_len (by decide) ([] ++ (rs.take (lowR rs id))) [(id, m)] 0 es_26 zc_71 rfl eb_71 (lk rfl) rfl hal56 ham56 (lk rfl) (fun _ hw => Sl.own' (vs := flat encR [(id, m)]) hw (.tail _ (.head _))) (by first | omega | (simp <;> omega)) (by first | omega | (simp <;> omega)) rfl fun a61 ac61 as61 hal61 ham61 => ?_
    refine wl_nil (px_qn (fun _ h => h.dropN 2 rfl) ?_)
    refine wa_only 13 (by kernel_rfl) rfl ?_
    refine wl_appendR encR_len (by decide) (([] ++ (rs.take (lowR rs id))) ++ [(id, m)]) (rs.drop (lowR rs id)) 0 es_26 zc_71 rfl eb_71 (lk rfl) rfl hal61 ham61 (lk rfl) (fun _ hw => ((hs.hp hw rfl).sub (by rw [flat_len encR_len]; omega)).eq (flat_drop encR_len rs (lowR rs id) (by omega))) (by first | omega | (simp <;> omega)) (by first | omega | (simp <;> omega)) rfl fun a65 ac65 as65 hal65 ham65 => ?_
    refine wl_nil (px_qn (fun _ h => h.dropN 2 rfl) ?_)
    refine wa_take 14 rfl (by kernel_rfl) (by kernel_rfl) (by kernel_rfl) (by kernel_rfl) (fun _ h => h.dropN 2 rfl) gd_none rfl (val_assign (lk rfl)) ?_
    refine wa_done (by kernel_rfl) ?_
    refine px_then ?_
    refine wc_ret ?_
    refine fin1 rfl (res_tmp rfl) (fun w1 hw => ?_)
    rw [hadd]
    exact ⟨(a65, ac65, as65), ⟨hal65, ham65⟩, rfl, hw.mask [true, false] rfl⟩

theorem sReserve_c (a : Acc) (A : Option Addr) (b o c : Nat) (id n : Int) (w : World) (hs : Sl w A b o (flat encR a.res)) (hl : a.res.length ≤ 1048576) (hc : a.res.length ≤ c) :
    Calls Try.prog 22 #[a.val A c, .int .i64 id, .int .i64 n] w fun e w' => ∃ x : Nat × Nat × List Value, ((flat encR (a.rsv id n).res ++ x.2.2).length = x.2.1 * 2 ∧ x.2.1 ≤ 9223372036854775807) ∧ e = .returned (.tuple #[(a.rsv id n).val (some ⟨x.1, 0, none⟩) x.2.1, .int .i64 (a.got id n)]) ∧ HP w [⟨x.1, true, 71, flat encR (a.rsv id n).res ++ x.2.2⟩] w' := by
  refine calls_entry [] _ Try.func22 rfl Try.ntmps22 (HP.refl w) (env3 rfl) ?_
  refine wc_seq ?_
  refine wc_region ?_
  refine wl_box (lk rfl) rfl fun b1 => ?_
  refine wl_alloc zc_28 rfl fun b2 => ?_
  refine wl_v rfl (val_assign lkc) ?_
  refine wl_nil ?_
  refine px_then ?_
  refine wc_seq ?_
  refine wc_region ?_
  refine wl_v rfl (val_loadB (.tail _ (.head _)) (lk rfl) ag_28) ?_
  refine wl_callx rfl ci_51 (args1 (lk rfl)) (fun w1 hw => sCopyAcc_c a _ _ _ _ w1 (hs.hp hw rfl) hl) (fun _ => rfl) ?_
  rintro ⟨gb10, gc10, gs10⟩ ⟨hgl10, hgc10⟩
  refine wl_alloc zc_28 rfl fun b3 => ?_
  refine wl_storeB 0 rfl (lk rfl) (lk rfl) ag_28 rfl rfl ?_
  refine wl_nil ?_
  refine px_then ?_
  refine wc_seq ?_
  refine wc_seq ?_
  refine wc_region ?_
  refine wl_v rfl (val_loadB (.tail _ (.tail _ (.tail _ (.head _)))) (lk rfl) ag_28) ?_
  refine wl_call gd_none rfl ci_47 (args1 (lk rfl)) (fun hG w1 hw => sIsValidAccount_c a _ _ _ _ w1 (hs.hp hw rfl) hl) ?_
  refine wl_v rfl (val_not (lk rfl)) ?_
  refine wl_v rfl (val_move (lk rfl)) ?_
  refine wl_val (gd_f rfl rfl rfl) rfl (val_move (lk rfl)) ?_
  refine wl_val (gd_f rfl rfl rfl) rfl (val_lss (lkg rfl) lkc) ?_
  refine wl_v rfl (val_or (lk rfl) (lkg rfl)) ?_
  refine wl_v rfl (val_move (lk rfl)) ?_
  refine wl_val (gd_f rfl rfl rfl) rfl (val_move (lk rfl)) ?_
  refine wl_call (gd_f rfl rfl rfl) rfl ci_61 (args3 (lkg rfl) lkc lkc) (fun hG w1 hw => l1In_c _ _ _ w1) ?_
  refine wl_val (gd_f rfl rfl rfl) rfl (val_not (lkg rfl)) ?_
  refine wl_v rfl (val_or (lk rfl) (lkg rfl)) ?_
  refine wl_v rfl (val_move (lk rfl)) ?_
  refine wl_val (gd_f rfl rfl rfl) rfl (val_field fo_28_1 (lk rfl)) ?_
  refine wl_val (gd_f rfl rfl rfl) rfl (val_load1 t1_3 (lkg rfl) (cell_own (.tail _ (.tail _ (.tail _ (.head _)))) fun _ => rfl)) ?_
  refine wl_val (gd_f rfl rfl rfl) rfl (val_eql (lkg rfl) lkc) ?_
  refine wl_v rfl (val_or (lk rfl) (lkg rfl)) ?_
  refine wl_v rfl (val_move (lk rfl)) ?_
  refine wl_val (gd_f rfl rfl rfl) rfl (val_field fo_28_3 (lk rfl)) ?_
  refine wl_val (gd_f rfl rfl rfl) rfl (val_load1 t1_26 (lkg rfl) (cell_own (.tail _ (.tail _ (.tail _ (.head _)))) fun _ => rfl)) ?_
  refine wl_val (gd_f rfl rfl rfl) rfl (val_len es_26 (lkg rfl)) ?_
  refine wl_val (gd_f rfl rfl rfl) rfl (val_geq (lkg rfl) lkc) ?_
  refine wl_val (gd_f rfl rfl rfl) rfl (val_move (lkg rfl)) ?_
  refine wl_val (gd_gt rfl rfl rfl) rfl (val_loadB (.tail _ (.tail _ (.tail _ (.head _)))) (lk rfl) ag_28) ?_
  refine wl_val (gd_gt rfl rfl rfl) rfl (val_move (lk rfl)) ?_
  refine wl_call (gd_gt rfl rfl rfl) rfl ci_53 (args2 (lkg rfl) (lkg rfl)) (fun hG w1 hw => sFind_c a _ _ _ _ id w1 (hs.hp hw rfl) hl) ?_
  refine wl_val (gd_gt rfl rfl rfl) rfl (val_lss (lkg rfl) lkc) ?_
  refine wl_val (gd_f rfl rfl rfl) rfl (val_and (lkg rfl) (lkg rfl)) ?_
  refine wl_v rfl (val_or (lk rfl) (lkg rfl)) ?_
  refine wl_nil ?_
  refine px_then ?_
  refine wc_cond (lk rfl) (fun hc0 => ?_) (fun hc0 => ?_)
  · have hcan : a.can id n = false := by
      rw [Acc.can]; revert hc0; cases a.ok <;> cases decide (id < 0) <;> cases inRange n 1 100000 <;> cases (a.avail == 0) <;> simp <;> omega
    refine wc_seq ?_
    refine wc_region ?_
    refine wl_v rfl (val_loadB (.head _) (lk rfl) ag_28) ?_
    refine wl_storeB 2 rfl (lk rfl) (lk rfl) ag_28 rfl rfl ?_
    refine wl_v rfl (val_assign lkc) ?_
    refine wl_nil ?_
    refine px_then ?_
    refine wc_ret ?_
    refine px_then_ret ?_
    refine fin2 rfl (res_cell rfl (.tail _ (.tail _ (.head _))) ag_28) (res_tmp rfl) (fun w1 hw => ?_)
    rw [Acc.rsv, Acc.got, hcan]
    exact ⟨(gb10, gc10, gs10), ⟨hgl10, hgc10⟩, rfl, hw.mask [false, true, false, false] rfl⟩
  have hcan : a.can id n = true := by
    rw [Acc.can]; revert hc0; cases a.ok <;> cases decide (id < 0) <;> cases inRange n 1 100000 <;> cases (a.avail == 0) <;> simp <;> omega
  refine wc_skip ?_
  refine px_then ?_
  refine wc_seq ?_
  refine wc_region ?_
  refine wl_v rfl (val_move (lk rfl)) ?_
  refine wl_v rfl (val_field fo_28_1 (lk rfl)) ?_
  refine wl_v rfl (val_load1 t1_3 (lk rfl) (cell_own (.tail _ (.tail _ (.tail _ (.head _)))) fun _ => rfl)) ?_
  refine wl_call gd_none rfl ci_49 (args2 (lk rfl) (lk rfl)) (fun hG w1 hw => sMin_c _ _ w1) ?_
  refine wl_v rfl (val_assign (lk rfl)) ?_
  refine wl_nil ?_
  refine px_then ?_
  refine wc_seq ?_
  refine wc_region ?_
  refine wl_v rfl (val_field fo_28_1 (lk rfl)) ?_
  refine wl_v rfl (val_load1 t1_3 (lk rfl) (cell_own (.tail _ (.tail _ (.tail _ (.head _)))) fun _ => rfl)) ?_
  refine wl_v rfl (val_move (lk rfl)) ?_
  refine wl_v rfl (val_sub (lk rfl) (lk rfl)) ?_
  refine wl_v rfl (val_field fo_28_1 (lk rfl)) ?_
  refine wl_store1 0 rfl (lk rfl) (lk rfl) t1_3 rfl (rfl) ?_
  refine wl_nil ?_
  refine px_then ?_
  refine wc_seq ?_
  refine wc_region ?_
  refine wl_v rfl (val_field fo_28_3 (lk rfl)) ?_
  refine wl_v rfl (val_load1 t1_26 (lk rfl) (cell_own (.tail _ (.tail _ (.tail _ (.head _)))) fun _ => rfl)) ?_
  refine wl_v rfl (val_move (lk rfl)) ?_
  refine wl_v rfl (val_move (lk rfl)) ?_
  refine wl_callx rfl ci_63 (args3 (lk rfl) (lk rfl) (lk rfl)) (fun w1 hw => add_c a.res _ _ _ _ id _ w1 (hs.hp hw rfl) hl hc) (fun _ => rfl) ?_
  rintro ⟨gb54, gc54, gs54⟩ ⟨hgl54, hgc54⟩
  refine wl_v rfl (val_field fo_28_3 (lk rfl)) ?_
  refine wl_store1 1 rfl (lk rfl) (lk rfl) t1_26 rfl (rfl) ?_
  refine wl_nil ?_
  refine px_then ?_
  refine wc_seq ?_
  refine wc_region ?_
  refine wl_v rfl (val_loadB (.tail _ (.head _)) (lk rfl) ag_28) ?_
  refine wl_v rfl (val_move (lk rfl)) ?_
  refine wl_storeB 3 rfl (lk rfl) (lk rfl) ag_28 rfl rfl ?_
  refine wl_v rfl (val_assign (lk rfl)) ?_
  refine wl_nil ?_
  refine px_then ?_
  refine wc_ret ?_
  refine fin2 rfl (res_cell rfl (.tail _ (.tail _ (.tail _ (.head _)))) ag_28) (res_tmp rfl) (fun w1 hw => ?_)
  rw [Acc.rsv, Acc.got, hcan]
  exact ⟨(gb54, gc54, gs54), ⟨hgl54, hgc54⟩, rfl, hw.mask [true, false, false, false, false] rfl⟩


theorem can_idx {a : Acc} {id n : Int} (hok : a.ok = true) (h : 0 ≤ a.idx id) (h2 : (((!a.ok || decide (id < 0)) || !inRange n 1 100000) || (a.avail == 0)) = false) : a.can id n = true := by
  rw [Acc.can, decide_eq_false (show ¬ a.idx id < 0 by omega), Bool.and_false, hok]
  rw [hok] at h2
  revert h2
  cases decide (id < 0) <;> cases inRange n 1 100000 <;> cases (a.avail == 0) <;> simp
theorem can_new {a : Acc} {id n : Int} (hok : a.ok = true) (h : a.idx id < 0) (h2 : (((!a.ok || decide (id < 0)) || !inRange n 1 100000) || (a.avail == 0)) = false) : a.can id n = !decide ((8 : Int) ≤ (a.res.length : Nat)) := by
  rw [Acc.can, decide_eq_true h, Bool.and_true, hok]
  rw [hok] at h2
  revert h2
  cases decide (id < 0) <;> cases inRange n 1 100000 <;> cases (a.avail == 0) <;> simp
theorem can_no {a : Acc} {id n : Int} (h2 : (((!a.ok || decide (id < 0)) || !inRange n 1 100000) || (a.avail == 0)) = true) : a.can id n = false := by
  rw [Acc.can]
  revert h2
  cases a.ok <;> cases decide (id < 0) <;> cases inRange n 1 100000 <;> cases (a.avail == 0) <;> simp
theorem add_found {a : Acc} {id m : Int} (hok : a.ok = true) (h : 0 ≤ a.idx id) : addR a.res id m = a.res.set (a.idx id).toNat ((nth d0R a.res (a.idx id).toNat).1, IntKind.i64.wrap ((nth d0R a.res (a.idx id).toNat).2 + m)) := by
  have h1 := low_found hok h
  rw [addR, h1.1, h1.2]; rfl
theorem add_new {a : Acc} {id m : Int} (hok : a.ok = true) (h : a.idx id < 0) : addR a.res id m = a.res.take (lowR a.res id) ++ [(id, m)] ++ a.res.drop (lowR a.res id) := by
  rw [addR, low_none hok h]; rfl
/-- the row moved up by one from k on -/
theorem shift_row {rs : List (Int × Int)} {k cap : Nat} {sp : List Value} (hk : k ≤ rs.length) (hcap : rs.length + 1 ≤ cap) :
    (flat encR (rs ++ [(0, 0)]) ++ sp).take (if cap = k + 1 then 0 else (k + 1) * 2) ++ flat encR (rs.drop k) ++ (flat encR (rs ++ [(0, 0)]) ++ sp).drop ((if cap = k + 1 then 0 else (k + 1) * 2) + (rs.length - k) * 2) = flat encR ((rs ++ [(0, 0)]).take (k + 1) ++ rs.drop k) ++ sp := by
  have hl : (rs ++ [((0 : Int), (0 : Int))]).length = rs.length + 1 := by simp
  by_cases hc : cap = k + 1
  · have hkk : k = rs.length := by omega
    subst hkk
    have e1 : rs.drop rs.length = [] := by simp
    have e2 : (rs ++ [((0 : Int), (0 : Int))]).take (rs.length + 1) = rs ++ [(0, 0)] := List.take_of_length_le (by simp)
    simp only [hc, if_true, List.take_zero, List.nil_append, e1, e2, flat_nil, Nat.sub_self, Nat.zero_mul, Nat.add_zero, List.drop_zero, List.append_nil]
  · rw [if_neg hc]
    have h1 : (k + 1) * 2 ≤ (flat encR (rs ++ [((0 : Int), (0 : Int))])).length := by rw [flat_len encR_len, hl]; omega
    have h2 : (k + 1) * 2 + (rs.length - k) * 2 = (rs ++ [((0 : Int), (0 : Int))]).length * 2 := by rw [hl]; omega
    rw [h2, List.take_append_of_le_length h1, flat_take encR_len _ (k + 1) (by omega), List.drop_left' (flat_len encR_len _), flat_append]
theorem set_row' {rs : List (Int × Int)} {k : Nat} {r : Int × Int} (hk : k ≤ rs.length) : ((rs ++ [(0, 0)]).take (k + 1) ++ rs.drop k).set k r = rs.take k ++ [r] ++ rs.drop k := by
  have h0 : ((rs ++ [((0 : Int), (0 : Int))]).take (k + 1)).length = k + 1 := by simp; omega
  rw [List.set_append_left _ _ (by omega)]
  congr 1
  have h1 : (rs ++ [((0 : Int), (0 : Int))]).take (k + 1) = rs.take k ++ [nth d0R (rs ++ [(0, 0)]) k] := by
    rw [take_nth (d := d0R) (show k < (rs ++ [((0 : Int), (0 : Int))]).length by simp; omega), List.take_append_of_le_length hk]
  have h2 : (rs.take k).length = k := by simp; omega
  rw [h1, List.set_append_right _ _ (by omega), h2, Nat.sub_self]
  rfl

theorem Reserve_c (a : Acc) (A : Option Addr) (b o c : Nat) (id n : Int) (w : World) (hs : Sl w A b o (flat encR a.res)) (hl : a.res.length ≤ 1048576) :
    Calls Try.prog 23 #[a.val A c, .int .i64 id, .int .i64 n] w fun e w' => ∃ x : Nat × Nat × List Value, ((flat encR (a.rsv id n).res ++ x.2.2).length = x.2.1 * 2 ∧ x.2.1 ≤ 9223372036854775807) ∧ e = .returned (.tuple #[(a.rsv id n).val (some ⟨x.1, 0, none⟩) x.2.1, .int .i64 (a.got id n)]) ∧ HP w [⟨x.1, true, 71, flat encR (a.rsv id n).res ++ x.2.2⟩] w' := by
  refine calls_entry [] _ Try.func23 rfl Try.ntmps23 (HP.refl w) (env3 rfl) ?_
  refine wc_seq ?_
  refine wc_region ?_
  refine wl_box (lk rfl) rfl fun b1 => ?_
  refine wl_alloc zc_28 rfl fun b2 => ?_
  refine wl_v rfl (val_assign lkc) ?_
  refine wl_nil ?_
  refine px_then ?_
  refine wc_seq ?_
  refine wc_region ?_
  refine wl_v rfl (val_loadB (.tail _ (.head _)) (lk rfl) ag_28) ?_
  refine wl_callx rfl ci_55 (args1 (lk rfl)) (fun w1 hw => copyAcc_c a _ _ _ _ w1 (hs.hp hw rfl) hl) (fun _ => rfl) ?_
  rintro ⟨gb13, gc13, gs13⟩ ⟨hgl13, hgc13⟩
  refine wl_alloc zc_28 rfl fun b3 => ?_
  refine wl_storeB 0 rfl (lk rfl) (lk rfl) ag_28 rfl rfl ?_
  refine wl_nil ?_
  refine px_then ?_
  refine wc_seq ?_
  refine wc_seq ?_
  refine wc_region ?_
  refine wl_v rfl (val_loadB (.tail _ (.tail _ (.tail _ (.head _)))) (lk rfl) ag_28) ?_
  refine wl_call gd_none rfl ci_42 (args1 (lk rfl)) (fun hG w1 hw => IsValidAccount_c a _ _ _ _ w1 (hs.hp hw rfl) hl) ?_
  refine wl_v rfl (val_not (lk rfl)) ?_
  refine wl_v rfl (val_move (lk rfl)) ?_
  refine wl_val (gd_f rfl rfl rfl) rfl (val_move (lk rfl)) ?_
  refine wl_val (gd_f rfl rfl rfl) rfl (val_lss (lkg rfl) lkc) ?_
  refine wl_v rfl (val_or (lk rfl) (lkg rfl)) ?_
  refine wl_v rfl (val_move (lk rfl)) ?_
  refine wl_val (gd_f rfl rfl rfl) rfl (val_move (lk rfl)) ?_
  refine wl_call (gd_f rfl rfl rfl) rfl ci_62 (args3 (lkg rfl) lkc lkc) (fun hG w1 hw => InRange_c _ _ _ w1) ?_
  refine wl_val (gd_f rfl rfl rfl) rfl (val_not (lkg rfl)) ?_
  refine wl_v rfl (val_or (lk rfl) (lkg rfl)) ?_
  refine wl_v rfl (val_move (lk rfl)) ?_
  refine wl_val (gd_f rfl rfl rfl) rfl (val_field fo_28_1 (lk rfl)) ?_
  refine wl_val (gd_f rfl rfl rfl) rfl (val_load1 t1_3 (lkg rfl) (cell_own (.tail _ (.tail _ (.tail _ (.head _)))) fun _ => rfl)) ?_
  refine wl_val (gd_f rfl rfl rfl) rfl (val_eql (lkg rfl) lkc) ?_
  refine wl_v rfl (val_or (lk rfl) (lkg rfl)) ?_
  refine wl_nil ?_
  refine px_then ?_
  refine wc_cond (lk rfl) (fun hc0 => ?_) (fun hc0 => ?_)
  · have hcan := can_no hc0
    refine wc_seq ?_
    refine wc_region ?_
    refine wl_v rfl (val_loadB (.head _) (lk rfl) ag_28) ?_
    refine wl_storeB 2 rfl (lk rfl) (lk rfl) ag_28 rfl rfl ?_
    refine wl_v rfl (val_assign lkc) ?_
    refine wl_nil ?_
    refine px_then ?_
    refine wc_ret ?_
    refine px_then_ret ?_
    refine fin2 rfl (res_cell rfl (.tail _ (.tail _ (.head _))) ag_28) (res_tmp rfl) (fun w1 hw => ?_)
    rw [Acc.rsv, Acc.got, hcan]
    exact ⟨(gb13, gc13, gs13), ⟨hgl13, hgc13⟩, rfl, hw.mask [false, true, false, false] rfl⟩
  have hok : a.ok = true := by revert hc0; cases a.ok <;> simp
  have hl8 := (Acc.ok_parts hok).2.1
  refine wc_skip ?_
  refine px_then ?_
  refine wc_seq ?_
  refine wc_region ?_
  refine wl_v rfl (val_move (lk rfl)) ?_
  refine wl_v rfl (val_field fo_28_1 (lk rfl)) ?_
  refine wl_v rfl (val_load1 t1_3 (lk rfl) (cell_own (.tail _ (.tail _ (.tail _ (.head _)))) fun _ => rfl)) ?_
  refine wl_call gd_none rfl ci_64 (args2 (lk rfl) (lk rfl)) (fun hG w1 hw => Min_c _ _ w1) ?_
  refine wl_v rfl (val_assign (lk rfl)) ?_
  refine wl_nil ?_
  refine px_then ?_
  refine wc_seq ?_
  refine wc_seq ?_
  refine wc_region ?_
  refine wl_v rfl (val_loadB (.tail _ (.tail _ (.tail _ (.head _)))) (lk rfl) ag_28) ?_
  refine wl_v rfl (val_move (lk rfl)) ?_
  refine wl_call gd_none rfl ci_56 (args2 (lk rfl) (lk rfl)) (fun hG w1 hw => Find_c a _ _ _ _ id w1 (hs.hp hw rfl) hl) ?_
  refine wl_v rfl (val_assign (lk rfl)) ?_
  refine wl_nil ?_
  refine px_then ?_
  refine wc_seq ?_
  refine wc_region ?_
  refine wl_v rfl (val_move (lk rfl)) ?_
  refine wl_v rfl (val_geq (lk rfl) lkc) ?_
  refine wl_nil ?_
  refine px_then ?_
  refine wc_cond (lk rfl) (fun hc1 => ?_) (fun hc1 => ?_)
  · have h0 : 0 ≤ a.idx id := of_decide_eq_true hc1
    have hlt := a.idx_lt id h0
    have hltn : (a.idx id).toNat < a.res.length := by omega
    have hcan := can_idx hok h0 hc0
    have e1 : (flat encR a.res ++ gs13).set (0 + (a.idx id).toNat * 2 + 1) (.int .i64 (IntKind.i64.wrap ((nth d0R a.res (a.idx id).toNat).2 + imin n a.avail))) = flat encR (a.res.set (a.idx id).toNat ((nth d0R a.res (a.idx id).toNat).1, IntKind.i64.wrap ((nth d0R a.res (a.idx id).toNat).2 + imin n a.avail))) ++ gs13 := by rw [Nat.zero_add]; exact flat_set encR_len d0R a.res (a.idx id).toNat 1 _ _ gs13 hltn (by decide) rfl
    refine wc_seq ?_
    refine wc_region ?_
    refine wl_v rfl (val_field fo_28_3 (lk rfl)) ?_
    refine wl_v rfl (val_load1 t1_26 (lk rfl) (cell_own (.head _) fun _ => rfl)) ?_
    refine wl_v rfl (val_move (lk rfl)) ?_
    refine wl_v rfl (val_indexI es_26 (lk rfl) (lk rfl) (fun _ => rfl) (fun _ => ⟨h0, hlt⟩)) ?_
    refine wl_v rfl (val_field fo_71_1 (lk rfl)) ?_
    refine wl_v rfl (val_load1 t1_3 (lk rfl) (own_fld (.tail _ (.head _)) encR_len d0R (i := (a.idx id).toNat) (f := 1) (fun _ => hltn) rfl)) ?_
    refine wl_v rfl (val_move (lk rfl)) ?_
    refine wl_v rfl (val_add (lk rfl) (lk rfl)) ?_
    refine wl_v rfl (val_indexI es_26 (lk rfl) (lk rfl) (fun _ => rfl) (fun _ => ⟨h0, hlt⟩)) ?_
    refine wl_v rfl (val_field fo_71_1 (lk rfl)) ?_
    refine wl_store1 1 (show _ = some (Blk.mk gb13 true 71 (flat encR a.res ++ gs13)) from rfl) (lk rfl) (lk rfl) t1_3 rfl (by rw [Nat.blt_eq, List.length_append, flat_len encR_len]; omega) ?_
    refine wl_nil ?_
    rw [e1]
    rw [show a.res.length = (a.res.set (a.idx id).toNat ((nth d0R a.res (a.idx id).toNat).1, IntKind.i64.wrap ((nth d0R a.res (a.idx id).toNat).2 + imin n a.avail))).length from (List.length_set).symm]
    refine px_then ?_
    refine wc_seq ?_
    refine wc_region ?_
    refine wl_v rfl (val_field fo_28_1 (lk rfl)) ?_
    refine wl_v rfl (val_load1 t1_3 (lk rfl) (cell_own (.head _) fun _ => rfl)) ?_
    refine wl_v rfl (val_move (lk rfl)) ?_
    refine wl_v rfl (val_sub (lk rfl) (lk rfl)) ?_
    refine wl_v rfl (val_field fo_28_1 (lk rfl)) ?_
    refine wl_store1 0 rfl (lk rfl) (lk rfl) t1_3 rfl (rfl) ?_
    refine wl_nil ?_
    refine px_then ?_
    refine wc_seq ?_
    refine wc_region ?_
    refine wl_v rfl (val_loadB (.head _) (lk rfl) ag_28) ?_
    refine wl_v rfl (val_move (lk rfl)) ?_
    refine wl_storeB 2 rfl (lk rfl) (lk rfl) ag_28 rfl rfl ?_
    refine wl_v rfl (val_assign (lk rfl)) ?_
    refine wl_nil ?_
    refine px_then ?_
    refine wc_ret ?_
    refine px_then_ret ?_
    refine fin2 rfl (res_cell rfl (.tail _ (.tail _ (.head _))) ag_28) (res_tmp rfl) (fun w1 hw => ?_)
    rw [Acc.rsv, Acc.got, hcan, if_pos rfl, if_pos rfl, add_found hok h0]
    exact ⟨(gb13, gc13, gs13), ⟨by rw [← e1, List.length_set]; exact hgl13, hgc13⟩, rfl, hw.mask [false, true, false, false] rfl⟩
  have hi : a.idx id < 0 := by have := of_decide_eq_false hc1; omega
  have hcan0 := can_new hok hi hc0
  refine wc_skip ?_
  refine px_then ?_
  refine wc_seq ?_
  refine wc_seq ?_
  refine wc_region ?_
  refine wl_v rfl (val_field fo_28_3 (lk rfl)) ?_
  refine wl_v rfl (val_load1 t1_26 (lk rfl) (cell_own (.tail _ (.tail _ (.tail _ (.head _)))) fun _ => rfl)) ?_
  refine wl_v rfl (val_len es_26 (lk rfl)) ?_
  refine wl_v rfl (val_geq (lk rfl) lkc) ?_
  refine wl_nil ?_
  refine px_then ?_
  refine wc_cond (lk rfl) (fun hc2 => ?_) (fun hc2 => ?_)
  · have hcan : a.can id n = false := by rw [hcan0, hc2]; rfl
    refine wc_seq ?_
    refine wc_region ?_
    refine wl_v rfl (val_loadB (.head _) (lk rfl) ag_28) ?_
    refine wl_storeB 2 rfl (lk rfl) (lk rfl) ag_28 rfl rfl ?_
    refine wl_v rfl (val_assign lkc) ?_
    refine wl_nil ?_
    refine px_then ?_
    refine wc_ret ?_
    refine px_then_ret ?_
    refine fin2 rfl (res_cell rfl (.tail _ (.tail _ (.head _))) ag_28) (res_tmp rfl) (fun w1 hw => ?_)
    rw [Acc.rsv, Acc.got, hcan]
    exact ⟨(gb13, gc13, gs13), ⟨hgl13, hgc13⟩, rfl, hw.mask [false, true, false, false] rfl⟩
  have hcan : a.can id n = true := by rw [hcan0, hc2]; rfl
  refine wc_skip ?_
  refine px_then ?_
  refine wc_seq ?_
  refine wc_region ?_
  refine wl_v rfl (val_assign lkc) ?_
  refine wl_nil ?_
  refine px_then ?_
  refine wc_seq ?_
  refine wc_block ?_
  refine wc_trim (l' := [(1, _), (6, _), (7, _), (8, _), (9, _), (11, _)]) ⟨rfl, rfl, rfl, rfl, rfl, rfl, trivial⟩ ?_
  refine wc_loop0 (X := Nat) (fun k => k ≤ a.res.length ∧ lowR (a.res.drop k) id + k = lowR a.res id) (fun k => [(11, (true, .int .i64 (k : Nat)))]) (fun k => a.res.length - k) 0 (⟨Nat.zero_le _, rfl⟩) ⟨rfl, rfl, rfl, rfl, rfl, rfl, rfl, trivial⟩ ?_
  rintro k ⟨hk, ht⟩
  refine wc_seq ?_
  refine wc_seq ?_
  refine wc_region ?_
  refine wl_v rfl (val_move (lk rfl)) ?_
  refine wl_v rfl (val_field fo_28_3 (lk rfl)) ?_
  refine wl_v rfl (val_load1 t1_26 (lk rfl) (cell_own (.head _) fun _ => rfl)) ?_
  refine wl_v rfl (val_len es_26 (lk rfl)) ?_
  refine wl_v rfl (val_lss (lk rfl) (lk rfl)) ?_
  refine wl_v rfl (val_move (lk rfl)) ?_
  refine wl_val (gd_t rfl rfl rfl) rfl (val_field fo_28_3 (lk rfl)) ?_
  refine wl_val (gd_t rfl rfl rfl) rfl (val_load1 t1_26 (lkg rfl) (cell_own (.head _) fun _ => rfl)) ?_
  refine wl_val (gd_t rfl rfl rfl) rfl (val_move (lk rfl)) ?_
  refine wl_val (gd_t rfl rfl rfl) rfl (val_index es_26 (lkg rfl) (lkg rfl) (fun hG => rfl) (fun hG => by have h9 := of_decide_eq_true hG; omega)) ?_
  refine wl_val (gd_t rfl rfl rfl) rfl (val_field fo_71_0 (lkg rfl)) ?_
  refine wl_val (gd_t rfl rfl rfl) rfl (val_load1 t1_3 (lkg rfl) (own_fld (.tail _ (.head _)) encR_len d0R (i := k) (f := 0) (fun hG => by have h9 := of_decide_eq_true hG; omega) rfl)) ?_
  refine wl_val (gd_t rfl rfl rfl) rfl (val_move (lk rfl)) ?_
  refine wl_val (gd_t rfl rfl rfl) rfl (val_lss (lkg rfl) (lkg rfl)) ?_
  refine wl_v rfl (val_and (lk rfl) (lkg rfl)) ?_
  refine wl_nil ?_
  refine px_then ?_
  refine wc_cond (lk rfl) (fun hc3 => ?_) (fun hc3 => ?_)
  · have hlt : k < a.res.length := by have h9 := of_decide_eq_true (Bool.and_eq_true _ _ ▸ hc3 : _ ∧ _).1; omega
    have hlo : (nth d0R a.res k).1 < id := of_decide_eq_true (Bool.and_eq_true _ _ ▸ hc3 : _ ∧ _).2
    refine wc_skip ?_
    refine px_then ?_
    refine wc_block ?_
    refine wc_region ?_
    refine wl_v rfl (val_move (lk rfl)) ?_
    refine wl_v rfl (val_inc (lk rfl) (by omega)) ?_
    refine wl_v rfl (val_assign (lk rfl)) ?_
    refine wl_nil ?_
    refine px_block ?_
    refine px_round0 (k + 1) (⟨by omega, by rw [← ht, lowR_step hlt, if_pos hlo]; omega⟩) (by omega) (⟨rfl, rfl, rfl, rfl, rfl, rfl, rfl, trivial⟩) (fun _ h => h.dropN 0 rfl)
  obtain rfl := lowR_end hk ht hc3
  have hle := lowR_le id a.res
  refine wc_exit ?_
  refine px_then_exit ?_
  refine px_then_exit ?_
  refine px_block_exit ?_
  refine px_then ?_
  refine wc_seq ?_
  refine wc_region ?_
  refine wl_v rfl (val_field fo_28_3 (lk rfl)) ?_
  refine wl_v rfl (val_load1 t1_26 (lk rfl) (cell_own (.head _) fun _ => rfl)) ?_
  refine wl_v rfl (val_buildP parts0 bl_71_) ?_
  refine wl_bslice (partsC (lk rfl) parts0) (bsl_26_1_0 _ _) rfl fun b4 => ?_
  refine wl_appendR encR_len (by decide) a.res [((0 : Int), (0 : Int))] 2 es_26 zc_71 rfl eb_71 (lk rfl) rfl hgl13 hgc13 (lk rfl) (fun _ hw => Sl.own' (vs := flat encR [((0 : Int), (0 : Int))]) hw (.head _)) (by first | omega | (simp <;> omega)) (by first | omega | (simp <;> omega)) rfl fun a84 ac84 as84 hal84 ham84 => ?_
  refine wl_v rfl (val_field fo_28_3 (lk rfl)) ?_
  refine wl_store1 2 rfl (lk rfl) (lk rfl) t1_26 rfl (rfl) ?_
  refine wl_nil ?_
  have hcp : (a.res ++ [((0 : Int), (0 : Int))]).length ≤ ac84 := cap_le encR_len (by decide) hal84
  have hzl : (a.res ++ [((0 : Int), (0 : Int))]).length = a.res.length + 1 := by simp
  have hsrc : ((flat encR (a.res ++ [((0 : Int), (0 : Int))])).drop (lowR a.res id * 2)).take ((a.res.length - lowR a.res id) * 2) = flat encR (a.res.drop (lowR a.res id)) := by
    rw [flat_drop encR_len _ _ (by omega), flat_take encR_len _ _ (by rw [List.length_drop]; omega), List.drop_append_of_le_length hle, List.take_left' (by rw [List.length_drop])]
  have hfit : (if ac84 = lowR a.res id + 1 then 0 else (lowR a.res id + 1) * 2) + (a.res.length - lowR a.res id) * 2 ≤ (flat encR (a.res ++ [((0 : Int), (0 : Int))]) ++ as84).length := by rw [List.length_append, flat_len encR_len, hzl]; split <;> omega
  refine px_then ?_
  refine wc_seq ?_
  refine wc_region_am [false, true, true, true, true] 10 mo_ rfl ?_
  refine wa_take 0 rfl (by kernel_rfl) (by kernel_rfl) (by kernel_rfl) (by kernel_rfl) (fun _ h => h.mask [false, true, true, true, true] rfl) gd_none rfl (val_field fo_28_3 (lk rfl)) ?_
  refine wa_take 1 rfl (by kernel_rfl) (by kernel_rfl) (by kernel_rfl) (by kernel_rfl) (fun _ h => h.mask [false, true, true, true, true] rfl) gd_none rfl (val_load1 t1_26 (lk rfl) (cell_own (.tail _ (.head _)) fun _ => rfl)) ?_
  refine wa_take 2 rfl (by kernel_rfl) (by kernel_rfl) (by kernel_rfl) (by kernel_rfl) (fun _ h => h.mask [false, true, true, true, true] rfl) gd_none rfl (val_move (lk rfl)) ?_
  refine wa_take 3 rfl (by kernel_rfl) (by kernel_rfl) (by kernel_rfl) (by kernel_rfl) (fun _ h => h.mask [false, true, true, true, true] rfl) gd_none rfl (val_inc (lk rfl) (by omega)) ?_
  refine wa_take 4 rfl (by kernel_rfl) (by kernel_rfl) (by kernel_rfl) (by kernel_rfl) (fun _ h => h.mask [false, true, true, true, true] rfl) gd_none rfl ((val_slice_all es_26 (lk rfl) (some (.tmp 89)) none (lowR a.res id + 1) (a.res ++ [((0 : Int), (0 : Int))]).length ⟨_, lk rfl⟩ rfl (fun _ => by simp; omega) (fun _ => hcp)).eq (show _ = Value.slice (some ⟨a84, (if ac84 = lowR a.res id + 1 then 0 else (lowR a.res id + 1) * 2), none⟩) ((a.res ++ [((0 : Int), (0 : Int))]).length - (lowR a.res id + 1)) (ac84 - (lowR a.res id + 1)) by split <;> simp [Addr.add])) ?_
  refine wa_take 5 rfl (by kernel_rfl) (by kernel_rfl) (by kernel_rfl) (by kernel_rfl) (fun _ h => h.mask [false, true, true, true, true] rfl) gd_none rfl (val_field fo_28_3 (lk rfl)) ?_
  refine wa_take 6 rfl (by kernel_rfl) (by kernel_rfl) (by kernel_rfl) (by kernel_rfl) (fun _ h => h.mask [false, true, true, true, true] rfl) gd_none rfl (val_load1 t1_26 (lk rfl) (cell_own (.tail _ (.head _)) fun _ => rfl)) ?_
  refine wa_take 7 rfl (by kernel_rfl) (by kernel_rfl) (by kernel_rfl) (by kernel_rfl) (fun _ h => h.mask [false, true, true, true, true] rfl) gd_none rfl (val_move (lk rfl)) ?_
  refine wa_take 8 rfl (by kernel_rfl) (by kernel_rfl) (by kernel_rfl) (by kernel_rfl) (fun _ h => h.mask [false, true, true, true, true] rfl) gd_none rfl ((val_slice_all es_26 (lk rfl) (some (.tmp 93)) none (lowR a.res id) (a.res ++ [((0 : Int), (0 : Int))]).length ⟨_, lk rfl⟩ rfl (fun _ => by simp; omega) (fun _ => hcp)).eq (show _ = Value.slice (some ⟨a84, (lowR a.res id) * 2, none⟩) ((a.res ++ [((0 : Int), (0 : Int))]).length - (lowR a.res id)) (ac84 - (lowR a.res id)) by rw [if_neg (by omega)]; simp [Addr.add_lit])) ?_
  refine wa_only 9 (by kernel_rfl) rfl ?_
  refine wl_copy 0 (a.res.length - lowR a.res id) es_26 (lk rfl) (lk rfl) (by rw [hzl]; show _ = min _ _; omega) (show _ = some (Blk.mk a84 true 71 (flat encR (a.res ++ [((0 : Int), (0 : Int))]) ++ as84)) from rfl) (fun _ hw => ((Sl.own (vs := flat encR (a.res ++ [((0 : Int), (0 : Int))])) hw (.head _)).drop ((lowR a.res id) * 2) (fun _ => by simp [Addr.add_lit])).take ((a.res.length - (lowR a.res id)) * 2) |>.eq hsrc) (by rw [flat_len encR_len, List.length_drop]) hfit (fun _ h => flat_cell h) rfl ?_
  refine wl_nil (px_qn (fun _ h => h.mask [false, true, true, true, true] rfl) ?_)
  refine wa_done (by kernel_rfl) ?_
  rw [shift_row hle (by omega)]
  have hml : ((a.res ++ [((0 : Int), (0 : Int))]).take (lowR a.res id + 1) ++ a.res.drop (lowR a.res id)).length = a.res.length + 1 := by simp; omega
  rw [show (a.res ++ [((0 : Int), (0 : Int))]).length = ((a.res ++ [((0 : Int), (0 : Int))]).take (lowR a.res id + 1) ++ a.res.drop (lowR a.res id)).length by rw [hml, hzl]]
  have hfit2 : 0 + lowR a.res id * 2 + 2 ≤ (flat encR ((a.res ++ [((0 : Int), (0 : Int))]).take (lowR a.res id + 1) ++ a.res.drop (lowR a.res id)) ++ as84).length := by rw [List.length_append, flat_len encR_len, hml]; omega
  refine px_then ?_
  refine wc_seq ?_
  refine wc_region ?_
  refine wl_v rfl (val_field fo_28_3 (lk rfl)) ?_
  refine wl_v rfl (val_load1 t1_26 (lk rfl) (cell_own (.tail _ (.tail _ (.head _))) fun _ => rfl)) ?_
  refine wl_v rfl (val_move (lk rfl)) ?_
  refine wl_v rfl (val_move (lk rfl)) ?_
  refine wl_v rfl (val_move (lk rfl)) ?_
  refine wl_v rfl (val_buildP (partsC (lk rfl) (partsC (lk rfl) parts0)) (bl_71_0_1 _ _)) ?_
  refine wl_v rfl (val_index es_26 (lk rfl) (lk rfl) (fun hG => rfl) (fun hG => by simp; omega)) ?_
  refine wl_storeN 0 ag_71 (lk rfl) (lk rfl) rfl rfl (show _ = some (Blk.mk a84 true 71 (flat encR ((a.res ++ [((0 : Int), (0 : Int))]).take (lowR a.res id + 1) ++ a.res.drop (lowR a.res id)) ++ as84)) from rfl) hfit2 ?_
  refine wl_nil ?_
  rw [Nat.zero_add, show [Value.int .i64 id, Value.int .i64 (imin n a.avail)] = recV encR (id, imin n a.avail) from rfl, set_nth encR_len ((a.res ++ [((0 : Int), (0 : Int))]).take (lowR a.res id + 1) ++ a.res.drop (lowR a.res id)) (lowR a.res id) (by omega) (id, imin n a.avail) as84, set_row' hle]
  rw [show ((a.res ++ [((0 : Int), (0 : Int))]).take (lowR a.res id + 1) ++ a.res.drop (lowR a.res id)).length = (a.res.take (lowR a.res id) ++ [(id, imin n a.avail)] ++ a.res.drop (lowR a.res id)).length by rw [hml]; simp; omega]
  refine px_then ?_
  refine wc_seq ?_
  refine wc_region ?_
  refine wl_v rfl (val_field fo_28_1 (lk rfl)) ?_
  refine wl_v rfl (val_load1 t1_3 (lk rfl) (cell_own (.tail _ (.tail _ (.head _))) fun _ => rfl)) ?_
  refine wl_v rfl (val_move (lk rfl)) ?_
  refine wl_v rfl (val_sub (lk rfl) (lk rfl)) ?_
  refine wl_v rfl (val_field fo_28_1 (lk rfl)) ?_
  refine wl_store1 2 rfl (lk rfl) (lk rfl) t1_3 rfl (rfl) ?_
  refine wl_nil ?_
  refine px_then ?_
  refine wc_seq ?_
  refine wc_region ?_
  refine wl_v rfl (val_loadB (.tail _ (.tail _ (.head _))) (lk rfl) ag_28) ?_
  refine wl_v rfl (val_move (lk rfl)) ?_
  refine wl_storeB 3 rfl (lk rfl) (lk rfl) ag_28 rfl rfl ?_
  refine wl_v rfl (val_assign (lk rfl)) ?_
  refine wl_nil ?_
  refine px_then ?_
  refine wc_ret ?_
  refine fin2 rfl (res_cell rfl (.tail _ (.tail _ (.tail _ (.head _)))) ag_28) (res_tmp rfl) (fun w1 hw => ?_)
  rw [Acc.rsv, Acc.got, hcan, if_pos rfl, if_pos rfl, add_new hok hi]
  exact ⟨(a84, ac84, as84), ⟨by rw [← hal84, List.length_append, List.length_append, flat_len encR_len, flat_len encR_len]; congr 2; simp; omega, ham84⟩, rfl, hw.mask [true, false, false, false, false] rfl⟩

end Go.Proofs.Ytdiojflamjppmaa
