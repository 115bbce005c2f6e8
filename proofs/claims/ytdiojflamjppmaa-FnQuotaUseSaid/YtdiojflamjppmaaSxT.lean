/- Accounts: reservations cut, dropped, released and debited, walked. -/
import Derived.Test.YtdiojflamjppmaaSxP
namespace Go.Proofs.Ytdiojflamjppmaa
open Go.RowKit


theorem flat_set {α : Type} {enc : α → List Int} {k : Nat} (hk : ∀ r, (enc r).length = k) (d : α) : ∀ (rs : List α) (m f : Nat) (r' : α) (v : Value) (sp : List Value), m < rs.length → f < k → recV enc r' = (recV enc (nth d rs m)).set f v → (flat enc rs ++ sp).set (m * k + f) v = flat enc (rs.set m r') ++ sp
  | [], _, _, _, _, _, h, _, _ => by simp at h
  | r :: rs, 0, f, r', v, sp, _, hf, hv => by
    have h0 : nth d (r :: rs) 0 = r := rfl
    rw [h0] at hv
    rw [Nat.zero_mul, Nat.zero_add, List.set_cons_zero, flat_cons, flat_cons, List.append_assoc, List.append_assoc, List.set_append_left _ _ (by rw [recV_len hk]; exact hf), hv]
  | r :: rs, m + 1, f, r', v, sp, h, hf, hv => by
    have h0 : nth d (r :: rs) (m + 1) = nth d rs m := rfl
    rw [h0] at hv
    have ih := flat_set hk d rs m f r' v sp (by simpa using h) hf hv
    have e1 : (m + 1) * k + f - k = m * k + f := by rw [Nat.succ_mul]; omega
    rw [List.set_cons_succ, flat_cons, flat_cons, List.append_assoc, List.append_assoc, List.set_append_right _ _ (by rw [recV_len hk, Nat.succ_mul]; omega), recV_len hk, e1, ih]
def cutAt (rs : List (Int × Int)) (k : Nat) : List (Int × Int) := rs.take k ++ rs.drop (k + 1)
def cutR (rs : List (Int × Int)) (k : Nat) (n : Int) : List (Int × Int) := if n < (nth d0R rs k).2 then rs.set k ((nth d0R rs k).1, IntKind.i64.wrap ((nth d0R rs k).2 - n)) else cutAt rs k
theorem cutAt_len {rs : List (Int × Int)} {k : Nat} (h : k < rs.length) : (cutAt rs k).length + 1 = rs.length := by simp [cutAt]; omega
theorem cutR_len {rs : List (Int × Int)} {k : Nat} {n : Int} (h : k < rs.length) : (cutR rs k n).length ≤ rs.length := by
  unfold cutR
  split
  · simp
  · have := cutAt_len h; omega

theorem dropRes_c (a : Acc) (A : Option Addr) (b o c : Nat) (j : Int) (w : World) (hs : Sl w A b o (flat encR a.res)) (hl : a.res.length ≤ 1048576) (hj : 0 ≤ j ∧ j < a.res.length) (hc : a.res.length ≤ c) :
    Calls Try.prog 57 #[a.val A c, .int .i64 j] w fun e w' => ∃ x : Nat × Nat × List Value, ((flat encR ({ a with res := cutAt a.res j.toNat }).res ++ x.2.2).length = x.2.1 * 2 ∧ x.2.1 ≤ 9223372036854775807) ∧ e = .returned (({ a with res := cutAt a.res j.toNat }).val (some ⟨x.1, 0, none⟩) x.2.1) ∧ HP w [⟨x.1, true, 71, flat encR ({ a with res := cutAt a.res j.toNat }).res ++ x.2.2⟩] w' := by
  obtain ⟨k, rfl⟩ : ∃ k : Nat, j = (k : Int) := ⟨j.toNat, by omega⟩
  have hlt : k < a.res.length := by omega
  refine calls_entry [] _ Try.func57 rfl Try.ntmps57 (HP.refl w) (env2 rfl) ?_
  refine wc_seq ?_
  refine wc_region ?_
  refine wl_box (lk rfl) rfl fun b1 => ?_
  refine wl_alloc zc_28 rfl fun b2 => ?_
  refine wl_nil ?_
  refine px_then ?_
  refine wc_seq ?_
  refine wc_region ?_
  refine wl_bslice parts0 bsl_26_0_ rfl fun b3 => ?_
  refine wl_v rfl (val_field fo_28_3 (lk rfl)) ?_
  refine wl_v rfl (val_load1 t1_26 (lk rfl) (cell_own (.tail _ (.tail _ (.head _))) fun _ => rfl)) ?_
  refine wl_v rfl (val_move (lk rfl)) ?_
  refine wl_v rfl ((val_slice_all es_26 (lk rfl) none (some (.tmp 9)) 0 k rfl ⟨_, lk rfl⟩ (fun _ => Nat.zero_le _) (fun _ => by omega)).eq (show _ = Value.slice (if c = 0 then A else (A).map (·.add (0 * 2))) (a.res.take k).length (c - 0) by rw [List.length_take, Nat.min_eq_left (by omega)]; rfl)) ?_
  refine wl_appendR (sp := []) encR_len (by decide) [] (a.res.take k) 0 es_26 zc_71 rfl eb_71 (lk rfl) rfl rfl (by decide) (lk rfl) (fun _ hw => (((hs.hp hw rfl).sub0).take (k * 2)).eq (flat_take encR_len a.res k (by omega))) (by first | omega | (simp <;> omega)) (by first | omega | (simp <;> omega)) rfl fun a11 ac11 as11 hal11 ham11 => ?_
  refine wl_v rfl (val_assign (lk rfl)) ?_
  refine wl_nil ?_
  refine px_then ?_
  refine wc_seq ?_
  refine wc_region ?_
  refine wl_v rfl (val_move (lk rfl)) ?_
  refine wl_v rfl (val_field fo_28_3 (lk rfl)) ?_
  refine wl_v rfl (val_load1 t1_26 (lk rfl) (cell_own (.tail _ (.tail _ (.head _))) fun _ => rfl)) ?_
  refine wl_v rfl (val_move (lk rfl)) ?_
  refine wl_v rfl (val_inc (lk rfl) (by omega)) ?_
  refine wl_v rfl ((val_slice_all es_26 (lk rfl) (some (.tmp 16)) none (k + 1) a.res.length ⟨_, lk rfl⟩ rfl (fun _ => by omega) (fun _ => by omega)).eq (show _ = Value.slice (if c = k + 1 then A else (A).map (·.add ((k + 1) * 2))) (a.res.drop (k + 1)).length (c - (k + 1)) by rw [List.length_drop])) ?_
  refine wl_appendR encR_len (by decide) ([] ++ (a.res.take k)) (a.res.drop (k + 1)) 0 es_26 zc_71 rfl eb_71 (lk rfl) rfl hal11 ham11 (lk rfl) (fun _ hw => ((hs.hp hw rfl).sub (by rw [flat_len encR_len]; omega)).eq (flat_drop encR_len a.res (k + 1) (by omega))) (by first | omega | (simp <;> omega)) (by first | omega | (simp <;> omega)) rfl fun a18 ac18 as18 hal18 ham18 => ?_
  refine wl_v rfl (val_field fo_28_3 (lk rfl)) ?_
  refine wl_store1 2 rfl (lk rfl) (lk rfl) t1_26 rfl (rfl) ?_
  refine wl_nil ?_
  refine px_then ?_
  refine wc_seq ?_
  refine wc_region ?_
  refine wl_v rfl (val_loadB (.tail _ (.tail _ (.head _))) (lk rfl) ag_28) ?_
  refine wl_storeB 1 rfl (lk rfl) (lk rfl) ag_28 rfl rfl ?_
  refine wl_nil ?_
  refine px_then ?_
  refine wc_ret ?_
  refine fin1 rfl (res_cell rfl (.tail _ (.head _)) ag_28) (fun w1 hw => ?_)
  exact ⟨(a18, ac18, as18), ⟨hal18, ham18⟩, rfl, hw.mask [true, false, false] rfl⟩

theorem cut_c (rs : List (Int × Int)) (A : Option Addr) (b o c : Nat) (j n : Int) (w : World) (hs : Sl w A b o (flat encR rs)) (hl : rs.length ≤ 1048576) (hj : 0 ≤ j ∧ j < rs.length) (hc : rs.length ≤ c) :
    Calls Try.prog 52 #[.slice A rs.length c, .int .i64 j, .int .i64 n] w fun e w' => ∃ x : Nat × Nat × List Value, ((flat encR (cutR rs j.toNat n) ++ x.2.2).length = x.2.1 * 2 ∧ x.2.1 ≤ 9223372036854775807) ∧ e = .returned (.slice (some ⟨x.1, 0, none⟩) (cutR rs j.toNat n).length x.2.1) ∧ HP w [⟨x.1, true, 71, flat encR (cutR rs j.toNat n) ++ x.2.2⟩] w' := by
  obtain ⟨k, rfl⟩ : ∃ k : Nat, j = (k : Int) := ⟨j.toNat, by omega⟩
  have hlt : k < rs.length := by omega
  refine calls_entry [] _ Try.func52 rfl Try.ntmps52 (HP.refl w) (env3 rfl) ?_
  refine wc_seq ?_
  refine wc_region ?_
  refine wl_v rfl (val_assign lkc) ?_
  refine wl_nil ?_
  refine px_then ?_
  refine wc_seq ?_
  refine wc_region ?_
  refine wl_bslice parts0 bsl_26_0_ rfl fun b1 => ?_
  refine wl_v rfl (val_move (lk rfl)) ?_
  refine wl_appendR (sp := []) encR_len (by decide) [] rs 0 es_26 zc_71 rfl eb_71 (lk rfl) rfl rfl (by decide) (lk rfl) (fun _ hw => hs.hp hw rfl) (by first | omega | (simp <;> omega)) (by first | omega | (simp <;> omega)) rfl fun a10 ac10 as10 hal10 ham10 => ?_
  refine wl_v rfl (val_assign (lk rfl)) ?_
  refine wl_nil ?_
  refine px_then ?_
  refine wc_seq ?_
  refine wc_seq ?_
  refine wc_region ?_
  refine wl_v rfl (val_move (lk rfl)) ?_
  refine wl_v rfl (val_move (lk rfl)) ?_
  refine wl_v rfl (val_move (lk rfl)) ?_
  refine wl_v rfl (val_index es_26 (lk rfl) (lk rfl) (fun hG => hs.hd encR_len (by decide) (i := k) hlt) (fun hG => hlt)) ?_
  refine wl_v rfl (val_field fo_71_1 (lk rfl)) ?_
  refine wl_v rfl (val_load1 t1_3 (lk rfl) (cell_old rfl fun hG => hs.fld encR_len d0R (i := k) (f := 1) (hlt) (by decide) rfl)) ?_
  refine wl_v rfl (val_lss (lk rfl) (lk rfl)) ?_
  refine wl_nil ?_
  refine px_then ?_
  refine wc_cond (lk rfl) (fun hc0 => ?_) (fun hc0 => ?_)
  · have hcut : cutR rs k n = rs.set k ((nth d0R rs k).1, IntKind.i64.wrap ((nth d0R rs k).2 - n)) := if_pos (of_decide_eq_true hc0)
    have e1 : (flat encR rs ++ as10).set (0 + k * 2 + 1) (.int .i64 (IntKind.i64.wrap ((nth d0R rs k).2 - n))) = flat encR (rs.set k ((nth d0R rs k).1, IntKind.i64.wrap ((nth d0R rs k).2 - n))) ++ as10 := by rw [Nat.zero_add]; exact flat_set encR_len d0R rs k 1 _ _ as10 hlt (by decide) rfl
    refine wc_seq ?_
    refine wc_region ?_
    refine wl_v rfl (val_move (lk rfl)) ?_
    refine wl_v rfl (val_move (lk rfl)) ?_
    refine wl_v rfl (val_move (lk rfl)) ?_
    refine wl_v rfl (val_move (lk rfl)) ?_
    refine wl_v rfl (val_index es_26 (lk rfl) (lk rfl) (fun hG => hs.hd encR_len (by decide) (i := k) hlt) (fun hG => hlt)) ?_
    refine wl_v rfl (val_field fo_71_1 (lk rfl)) ?_
    refine wl_v rfl (val_load1 t1_3 (lk rfl) (cell_old rfl fun hG => hs.fld encR_len d0R (i := k) (f := 1) (hlt) (by decide) rfl)) ?_
    refine wl_v rfl (val_move (lk rfl)) ?_
    refine wl_v rfl (val_sub (lk rfl) (lk rfl)) ?_
    refine wl_v rfl (val_index es_26 (lk rfl) (lk rfl) (fun hG => rfl) (fun hG => hlt)) ?_
    refine wl_v rfl (val_field fo_71_1 (lk rfl)) ?_
    refine wl_store1 0 (show _ = some (Blk.mk a10 true 71 (flat encR rs ++ as10)) from rfl) (lk rfl) (lk rfl) t1_3 rfl (by rw [Nat.blt_eq, List.length_append, flat_len encR_len]; omega) ?_
    refine wl_nil ?_
    refine px_then ?_
    refine wc_seq ?_
    refine wc_region ?_
    refine wl_v rfl (val_move (lk rfl)) ?_
    refine wl_v rfl (val_assign (lk rfl)) ?_
    refine wl_nil ?_
    refine px_then ?_
    refine wc_ret ?_
    refine px_then_ret ?_
    refine fin1 rfl (res_tmp rfl) (fun w1 hw => ?_)
    rw [show ((k : Int)).toNat = k from rfl, hcut]
    have h2 := hw.mask [true] rfl
    refine ⟨(a10, ac10, as10), ⟨by rw [← e1, List.length_set]; exact hal10, ham10⟩, by rw [List.length_set]; rfl, by rw [← e1]; exact h2⟩
  have hcut : cutR rs k n = cutAt rs k := if_neg (of_decide_eq_false hc0)
  have hcp : rs.length ≤ ac10 := cap_le encR_len (by decide) (xs := rs) hal10
  have hsp : flat encR rs ++ as10 = flat encR (rs.take k) ++ (flat encR (rs.drop k) ++ as10) := by rw [← List.append_assoc, ← flat_append, List.take_append_drop]
  refine wc_skip ?_
  refine px_then ?_
  refine wc_seq ?_
  refine wc_region_am [false] 9 mo_ rfl ?_
  refine wa_take 0 rfl (by kernel_rfl) (by kernel_rfl) (by kernel_rfl) (by kernel_rfl) (fun _ h => h.mask [false] rfl) gd_none rfl (val_move (lk rfl)) ?_
  refine wa_take 1 rfl (by kernel_rfl) (by kernel_rfl) (by kernel_rfl) (by kernel_rfl) (fun _ h => h.mask [false] rfl) gd_none rfl (val_move (lk rfl)) ?_
  refine wa_take 2 rfl (by kernel_rfl) (by kernel_rfl) (by kernel_rfl) (by kernel_rfl) (fun _ h => h.mask [false] rfl) gd_none rfl ((val_slice_all es_26 (lk rfl) none (some (.tmp 31)) 0 k rfl ⟨_, lk rfl⟩ (fun _ => Nat.zero_le _) (fun _ => by omega)).eq (show _ = Value.slice (some ⟨a10, 0, none⟩) (rs.take k).length ac10 by rw [List.length_take, Nat.min_eq_left (by omega)]; split <;> rfl)) ?_
  refine wa_take 3 rfl (by kernel_rfl) (by kernel_rfl) (by kernel_rfl) (by kernel_rfl) (fun _ h => h.mask [false] rfl) gd_none rfl (val_move (lk rfl)) ?_
  refine wa_take 4 rfl (by kernel_rfl) (by kernel_rfl) (by kernel_rfl) (by kernel_rfl) (fun _ h => h.mask [false] rfl) gd_none rfl (val_move (lk rfl)) ?_
  refine wa_take 5 rfl (by kernel_rfl) (by kernel_rfl) (by kernel_rfl) (by kernel_rfl) (fun _ h => h.mask [false] rfl) gd_none rfl (val_inc (lk rfl) (by omega)) ?_
  refine wa_take 6 rfl (by kernel_rfl) (by kernel_rfl) (by kernel_rfl) (by kernel_rfl) (fun _ h => h.mask [false] rfl) gd_none rfl ((val_slice_all es_26 (lk rfl) (some (.tmp 35)) none (k + 1) rs.length ⟨_, lk rfl⟩ rfl (fun _ => by omega) (fun _ => by omega)).eq (show _ = Value.slice (if c = k + 1 then A else (A).map (·.add ((k + 1) * 2))) (rs.drop (k + 1)).length (c - (k + 1)) by rw [List.length_drop])) ?_
  refine wa_only 7 (by kernel_rfl) rfl ?_
  refine wl_appendR encR_len (by decide) (rs.take k) (rs.drop (k + 1)) 0 es_26 zc_71 rfl eb_71 (lk rfl) (congrArg (fun x => some (Blk.mk a10 true 71 x)) hsp) (by rw [← hsp]; exact hal10) ham10 (lk rfl) (fun _ hw => ((hs.hp hw rfl).sub (by rw [flat_len encR_len]; omega)).eq (flat_drop encR_len rs (k + 1) (by omega))) (by first | omega | (simp <;> omega)) (by first | omega | (simp <;> omega)) rfl fun a37 ac37 as37 hal37 ham37 => ?_
  refine wl_nil (px_qn (fun _ h => h.mask [false] rfl) ?_)
  refine wa_take 8 rfl (by kernel_rfl) (by kernel_rfl) (by kernel_rfl) (by kernel_rfl) (fun _ h => h.mask [false] rfl) gd_none rfl (val_assign (lk rfl)) ?_
  refine wa_done (by kernel_rfl) ?_
  refine px_then ?_
  refine wc_ret ?_
  refine fin1 rfl (res_tmp rfl) (fun w1 hw => ?_)
  show ∃ x : Nat × Nat × List Value, _
  rw [show ((k : Int)).toNat = k from rfl, hcut]
  exact ⟨(a37, ac37, as37), ⟨hal37, ham37⟩, rfl, hw.mask [true] rfl⟩


theorem okRes_pos : ∀ {p : Option Int} {rs : List (Int × Int)}, okRes p rs = true → ∀ i, i < rs.length → 0 ≤ (nth d0R rs i).1 ∧ 1 ≤ (nth d0R rs i).2 ∧ (nth d0R rs i).2 ≤ 100000
  | _, [], _, i, h => by simp at h
  | p, r :: rs, h, i, hi => by
    simp only [okRes, Bool.and_eq_true, inRange, decide_eq_true_eq] at h
    cases i with
    | zero => exact ⟨h.1.1.1, h.1.1.2.1, h.1.1.2.2⟩
    | succ i => exact okRes_pos h.2 i (by simpa using hi)
theorem Acc.ok_parts {a : Acc} (h : a.ok = true) : a.hdOk = true ∧ a.res.length ≤ 8 ∧ okRes none a.res = true ∧ a.sumOk = true := by
  simp only [Acc.ok, Bool.and_eq_true, decide_eq_true_eq] at h
  exact ⟨h.1.1.1, h.1.1.2, h.1.2, h.2⟩
theorem Acc.held_zero {a : Acc} (h : a.ok = true) (id : Int) : (a.held id == 0) = decide (a.idx id < 0) := by
  unfold Acc.held
  split
  · rename_i h1; simp [h1]
  · rename_i h1
    have h2 := a.idx_lt id (by omega)
    have := okRes_pos (Acc.ok_parts h).2.2.1 (a.idx id).toNat (by omega)
    rw [decide_eq_false h1]
    simp
    omega
def Acc.rel (a : Acc) (id : Int) : Acc := if a.ok && decide (0 ≤ a.idx id) then { a with avail := IntKind.i64.wrap (a.avail + (nth d0R a.res (a.idx id).toNat).2), res := cutAt a.res (a.idx id).toNat } else a
theorem Acc.rel_len (a : Acc) (id : Int) : (a.rel id).res.length ≤ a.res.length := by
  unfold Acc.rel
  split
  · simp [cutAt]; omega
  · exact Nat.le_refl _

theorem Release_c (a : Acc) (A : Option Addr) (b o c : Nat) (id : Int) (w : World) (hs : Sl w A b o (flat encR a.res)) (hl : a.res.length ≤ 1048576) :
    Calls Try.prog 16 #[a.val A c, .int .i64 id] w fun e w' => ∃ x : Nat × Nat × List Value, ((flat encR (a.rel id).res ++ x.2.2).length = x.2.1 * 2 ∧ x.2.1 ≤ 9223372036854775807) ∧ e = .returned ((a.rel id).val (some ⟨x.1, 0, none⟩) x.2.1) ∧ HP w [⟨x.1, true, 71, flat encR (a.rel id).res ++ x.2.2⟩] w' := by
  refine calls_entry [] _ Try.func16 rfl Try.ntmps16 (HP.refl w) (env2 rfl) ?_
  refine wc_seq ?_
  refine wc_region ?_
  refine wl_box (lk rfl) rfl fun b1 => ?_
  refine wl_alloc zc_28 rfl fun b2 => ?_
  refine wl_nil ?_
  refine px_then ?_
  refine wc_seq ?_
  refine wc_region ?_
  refine wl_v rfl (val_loadB (.tail _ (.head _)) (lk rfl) ag_28) ?_
  refine wl_callx rfl ci_55 (args1 (lk rfl)) (fun w1 hw => copyAcc_c a _ _ _ _ w1 (hs.hp hw rfl) hl) (fun _ => rfl) ?_
  rintro ⟨gb8, gc8, gs8⟩ ⟨hgl8, hgc8⟩
  refine wl_alloc zc_28 rfl fun b3 => ?_
  refine wl_storeB 0 rfl (lk rfl) (lk rfl) ag_28 rfl rfl ?_
  refine wl_nil ?_
  refine px_then ?_
  refine wc_seq ?_
  refine wc_region ?_
  refine wl_v rfl (val_loadB (.head _) (lk rfl) ag_28) ?_
  refine wl_v rfl (val_move (lk rfl)) ?_
  refine wl_call gd_none rfl ci_56 (args2 (lk rfl) (lk rfl)) (fun hG w1 hw => Find_c a _ _ _ _ id w1 (Sl.own hw (.tail _ (.head _))) hl) ?_
  refine wl_v rfl (val_assign (lk rfl)) ?_
  refine wl_nil ?_
  refine px_then ?_
  refine wc_seq ?_
  refine wc_seq ?_
  refine wc_region ?_
  refine wl_v rfl (val_loadB (.tail _ (.tail _ (.tail _ (.head _)))) (lk rfl) ag_28) ?_
  refine wl_call gd_none rfl ci_42 (args1 (lk rfl)) (fun hG w1 hw => IsValidAccount_c a _ _ _ _ w1 (hs.hp hw rfl) hl) ?_
  refine wl_v rfl (val_not (lk rfl)) ?_
  refine wl_v rfl (val_move (lk rfl)) ?_
  refine wl_val (gd_f rfl rfl rfl) rfl (val_move (lk rfl)) ?_
  refine wl_val (gd_f rfl rfl rfl) rfl (val_lss (lkg rfl) lkc) ?_
  refine wl_v rfl (val_or (lk rfl) (lkg rfl)) ?_
  refine wl_nil ?_
  refine px_then ?_
  refine wc_cond (lk rfl) (fun hc0 => ?_) (fun hc0 => ?_)
  · have hrel : a.rel id = a := if_neg (by revert hc0; cases a.ok <;> simp)
    refine wc_seq ?_
    refine wc_region ?_
    refine wl_v rfl (val_loadB (.head _) (lk rfl) ag_28) ?_
    refine wl_storeB 2 rfl (lk rfl) (lk rfl) ag_28 rfl rfl ?_
    refine wl_nil ?_
    refine px_then ?_
    refine wc_ret ?_
    refine px_then_ret ?_
    refine fin1 rfl (res_cell rfl (.tail _ (.tail _ (.head _))) ag_28) (fun w1 hw => ?_)
    rw [hrel]
    exact ⟨(gb8, gc8, gs8), ⟨hgl8, hgc8⟩, rfl, hw.mask [false, true, false, false] rfl⟩
  have hok : a.ok = true := by revert hc0; cases a.ok <;> simp
  have h0 : 0 ≤ a.idx id := by revert hc0; cases a.ok <;> simp
  have hlt := a.idx_lt id h0
  have hrel : a.rel id = { a with avail := IntKind.i64.wrap (a.avail + (nth d0R a.res (a.idx id).toNat).2), res := cutAt a.res (a.idx id).toNat } := if_pos (by rw [hok, decide_eq_true h0]; rfl)
  refine wc_skip ?_
  refine px_then ?_
  refine wc_seq ?_
  refine wc_region_aL 10 11 mo_ rfl ?_
  refine wa_take 0 rfl (by kernel_rfl) (by kernel_rfl) (by kernel_rfl) (by kernel_rfl) (fun _ h => h.dropN 0 rfl) gd_none rfl (val_field fo_28_1 (lk rfl)) ?_
  refine wa_take 1 rfl (by kernel_rfl) (by kernel_rfl) (by kernel_rfl) (by kernel_rfl) (fun _ h => h.dropN 0 rfl) gd_none rfl (val_load1 t1_3 (lk rfl) (cell_own (.head _) fun _ => rfl)) ?_
  refine wa_take 2 rfl (by kernel_rfl) (by kernel_rfl) (by kernel_rfl) (by kernel_rfl) (fun _ h => h.dropN 0 rfl) gd_none rfl (val_field fo_28_3 (lk rfl)) ?_
  refine wa_take 3 rfl (by kernel_rfl) (by kernel_rfl) (by kernel_rfl) (by kernel_rfl) (fun _ h => h.dropN 0 rfl) gd_none rfl (val_load1 t1_26 (lk rfl) (cell_own (.head _) fun _ => rfl)) ?_
  refine wa_take 4 rfl (by kernel_rfl) (by kernel_rfl) (by kernel_rfl) (by kernel_rfl) (fun _ h => h.dropN 0 rfl) gd_none rfl (val_move (lk rfl)) ?_
  refine wa_take 5 rfl (by kernel_rfl) (by kernel_rfl) (by kernel_rfl) (by kernel_rfl) (fun _ h => h.dropN 0 rfl) gd_none rfl (val_indexI es_26 (lk rfl) (lk rfl) (fun _ => rfl) (fun _ => ⟨h0, hlt⟩)) ?_
  refine wa_take 6 rfl (by kernel_rfl) (by kernel_rfl) (by kernel_rfl) (by kernel_rfl) (fun _ h => h.dropN 0 rfl) gd_none rfl (val_field fo_71_1 (lk rfl)) ?_
  refine wa_take 7 rfl (by kernel_rfl) (by kernel_rfl) (by kernel_rfl) (by kernel_rfl) (fun _ h => h.dropN 0 rfl) gd_none rfl (val_load1 t1_3 (lk rfl) (own_fld (.tail _ (.head _)) encR_len d0R (i := (a.idx id).toNat) (f := 1) (fun _ => by omega) rfl)) ?_
  refine wa_take 8 rfl (by kernel_rfl) (by kernel_rfl) (by kernel_rfl) (by kernel_rfl) (fun _ h => h.dropN 0 rfl) gd_none rfl (val_add (lk rfl) (lk rfl)) ?_
  refine wa_take 9 rfl (by kernel_rfl) (by kernel_rfl) (by kernel_rfl) (by kernel_rfl) (fun _ h => h.dropN 0 rfl) gd_none rfl (val_field fo_28_1 (lk rfl)) ?_
  refine wa_only 10 (by kernel_rfl) rfl ?_
  refine wl_store1 0 rfl (lk rfl) (lk rfl) t1_3 rfl (rfl) ?_
  refine wl_nil (px_ql ?_)
  refine wa_done (by kernel_rfl) ?_
  refine px_then ?_
  refine wc_seq ?_
  refine wc_region ?_
  refine wl_v rfl (val_loadB (.head _) (lk rfl) ag_28) ?_
  refine wl_v rfl (val_move (lk rfl)) ?_
  refine wl_callx rfl ci_57 (args2 (lk rfl) (lk rfl)) (fun w1 hw => dropRes_c { a with avail := IntKind.i64.wrap (a.avail + (nth d0R a.res (a.idx id).toNat).2) } _ _ _ _ _ w1 (Sl.own hw (.tail _ (.head _))) hl ⟨h0, hlt⟩ (cap_le encR_len (by decide) hgl8)) (fun _ => rfl) ?_
  rintro ⟨gb32, gc32, gs32⟩ ⟨hgl32, hgc32⟩
  refine wl_storeB 3 rfl (lk rfl) (lk rfl) ag_28 rfl rfl ?_
  refine wl_nil ?_
  refine px_then ?_
  refine wc_ret ?_
  refine fin1 rfl (res_cell rfl (.tail _ (.tail _ (.tail _ (.head _)))) ag_28) (fun w1 hw => ?_)
  rw [hrel]
  exact ⟨(gb32, gc32, gs32), ⟨hgl32, hgc32⟩, rfl, hw.mask [true, false, false, false, false] rfl⟩

theorem sRelease_c (a : Acc) (A : Option Addr) (b o c : Nat) (id : Int) (w : World) (hs : Sl w A b o (flat encR a.res)) (hl : a.res.length ≤ 1048576) (hc : a.res.length ≤ c) :
    Calls Try.prog 14 #[a.val A c, .int .i64 id] w fun e w' => ∃ x : Nat × Nat × List Value, ((flat encR (a.rel id).res ++ x.2.2).length = x.2.1 * 2 ∧ x.2.1 ≤ 9223372036854775807) ∧ e = .returned ((a.rel id).val (some ⟨x.1, 0, none⟩) x.2.1) ∧ HP w [⟨x.1, true, 71, flat encR (a.rel id).res ++ x.2.2⟩] w' := by
  refine calls_entry [] _ Try.func14 rfl Try.ntmps14 (HP.refl w) (env2 rfl) ?_
  refine wc_seq ?_
  refine wc_region ?_
  refine wl_box (lk rfl) rfl fun b1 => ?_
  refine wl_alloc zc_28 rfl fun b2 => ?_
  refine wl_nil ?_
  refine px_then ?_
  refine wc_seq ?_
  refine wc_region ?_
  refine wl_v rfl (val_loadB (.tail _ (.head _)) (lk rfl) ag_28) ?_
  refine wl_callx rfl ci_51 (args1 (lk rfl)) (fun w1 hw => sCopyAcc_c a _ _ _ _ w1 (hs.hp hw rfl) hl) (fun _ => rfl) ?_
  rintro ⟨gb8, gc8, gs8⟩ ⟨hgl8, hgc8⟩
  refine wl_alloc zc_28 rfl fun b3 => ?_
  refine wl_storeB 0 rfl (lk rfl) (lk rfl) ag_28 rfl rfl ?_
  refine wl_nil ?_
  refine px_then ?_
  refine wc_seq ?_
  refine wc_region ?_
  refine wl_v rfl (val_loadB (.tail _ (.tail _ (.tail _ (.head _)))) (lk rfl) ag_28) ?_
  refine wl_v rfl (val_move (lk rfl)) ?_
  refine wl_call gd_none rfl ci_45 (args2 (lk rfl) (lk rfl)) (fun hG w1 hw => sReservedFor_c a _ _ _ _ id w1 (hs.hp hw rfl) hl) ?_
  refine wl_v rfl (val_assign (lk rfl)) ?_
  refine wl_nil ?_
  refine px_then ?_
  refine wc_seq ?_
  refine wc_seq ?_
  refine wc_region ?_
  refine wl_v rfl (val_loadB (.tail _ (.tail _ (.tail _ (.head _)))) (lk rfl) ag_28) ?_
  refine wl_call gd_none rfl ci_47 (args1 (lk rfl)) (fun hG w1 hw => sIsValidAccount_c a _ _ _ _ w1 (hs.hp hw rfl) hl) ?_
  refine wl_v rfl (val_not (lk rfl)) ?_
  refine wl_v rfl (val_move (lk rfl)) ?_
  refine wl_val (gd_f rfl rfl rfl) rfl (val_move (lk rfl)) ?_
  refine wl_val (gd_f rfl rfl rfl) rfl (val_eql (lkg rfl) lkc) ?_
  refine wl_v rfl (val_or (lk rfl) (lkg rfl)) ?_
  refine wl_nil ?_
  refine px_then ?_
  refine wc_cond (lk rfl) (fun hc0 => ?_) (fun hc0 => ?_)
  · have hrel : a.rel id = a := if_neg (by revert hc0; rcases Bool.eq_false_or_eq_true a.ok with h1 | h1 <;> first | (rw [Acc.held_zero h1]; simp [h1]; done) | simp [h1])
    refine wc_seq ?_
    refine wc_region ?_
    refine wl_v rfl (val_loadB (.head _) (lk rfl) ag_28) ?_
    refine wl_storeB 2 rfl (lk rfl) (lk rfl) ag_28 rfl rfl ?_
    refine wl_nil ?_
    refine px_then ?_
    refine wc_ret ?_
    refine px_then_ret ?_
    refine fin1 rfl (res_cell rfl (.tail _ (.tail _ (.head _))) ag_28) (fun w1 hw => ?_)
    rw [hrel]
    exact ⟨(gb8, gc8, gs8), ⟨hgl8, hgc8⟩, rfl, hw.mask [false, true, false, false] rfl⟩
  have hok : a.ok = true := by revert hc0; cases a.ok <;> simp
  have h0 : 0 ≤ a.idx id := by revert hc0; rcases Bool.eq_false_or_eq_true a.ok with h1 | h1 <;> first | (rw [Acc.held_zero h1]; simp [h1]; done) | simp [h1]
  have hlt := a.idx_lt id h0
  have hrel : a.rel id = { a with avail := IntKind.i64.wrap (a.avail + (nth d0R a.res (a.idx id).toNat).2), res := cutAt a.res (a.idx id).toNat } := if_pos (by rw [hok, decide_eq_true h0]; rfl)
  refine wc_skip ?_
  refine px_then ?_
  refine wc_seq ?_
  refine wc_region ?_
  refine wl_v rfl (val_field fo_28_1 (lk rfl)) ?_
  refine wl_v rfl (val_load1 t1_3 (lk rfl) (cell_own (.tail _ (.tail _ (.tail _ (.head _)))) fun _ => rfl)) ?_
  refine wl_v rfl (val_move (lk rfl)) ?_
  refine wl_v rfl (val_add (lk rfl) (lk rfl)) ?_
  refine wl_v rfl (val_field fo_28_1 (lk rfl)) ?_
  refine wl_store1 0 rfl (lk rfl) (lk rfl) t1_3 rfl (rfl) ?_
  refine wl_nil ?_
  refine px_then ?_
  refine wc_seq ?_
  refine wc_region_aL 8 9 mo_ rfl ?_
  refine wa_take 0 rfl (by kernel_rfl) (by kernel_rfl) (by kernel_rfl) (by kernel_rfl) (fun _ h => h.dropN 0 rfl) gd_none rfl (val_field fo_28_3 (lk rfl)) ?_
  refine wa_take 1 rfl (by kernel_rfl) (by kernel_rfl) (by kernel_rfl) (by kernel_rfl) (fun _ h => h.dropN 0 rfl) gd_none rfl (val_load1 t1_26 (lk rfl) (cell_own (.tail _ (.tail _ (.tail _ (.head _)))) fun _ => rfl)) ?_
  refine wa_take 2 rfl (by kernel_rfl) (by kernel_rfl) (by kernel_rfl) (by kernel_rfl) (fun _ h => h.dropN 0 rfl) gd_none rfl (val_loadB (.tail _ (.tail _ (.tail _ (.head _)))) (lk rfl) ag_28) ?_
  refine wa_take 3 rfl (by kernel_rfl) (by kernel_rfl) (by kernel_rfl) (by kernel_rfl) (fun _ h => h.dropN 0 rfl) gd_none rfl (val_move (lk rfl)) ?_
  refine wa_take 5 rfl (by kernel_rfl) (by kernel_rfl) (by kernel_rfl) (by kernel_rfl) (fun _ h => h.dropN 0 rfl) gd_none rfl (val_move (lk rfl)) ?_
  refine wa_only 4 (by kernel_rfl) rfl ?_
  refine wl_call gd_none rfl ci_53 (args2 (lk rfl) (lk rfl)) (fun hG w1 hw => sFind_c a _ _ _ _ id w1 (hs.hp hw rfl) hl) ?_
  refine wl_nil (px_qn (fun _ h => h.dropN 0 rfl) ?_)
  refine wa_only 6 (by kernel_rfl) rfl ?_
  refine wl_callx rfl ci_52 (args3 (lk rfl) (lk rfl) (lk rfl)) (fun w1 hw => cut_c a.res _ _ _ _ _ (a.held id) w1 (hs.hp hw rfl) hl ⟨h0, hlt⟩ hc) (fun _ => rfl) ?_
  rintro ⟨gb31, gc31, gs31⟩ ⟨hgl31, hgc31⟩
  refine wl_nil (px_qn (fun _ h => h.dropN 1 rfl) ?_)
  refine wa_take 7 rfl (by kernel_rfl) (by kernel_rfl) (by kernel_rfl) (by kernel_rfl) (fun _ h => h.dropN 1 rfl) gd_none rfl (val_field fo_28_3 (lk rfl)) ?_
  refine wa_only 8 (by kernel_rfl) rfl ?_
  refine wl_store1 1 rfl (lk rfl) (lk rfl) t1_26 rfl (rfl) ?_
  refine wl_nil (px_ql ?_)
  refine wa_done (by kernel_rfl) ?_
  refine px_then ?_
  refine wc_seq ?_
  refine wc_region ?_
  refine wl_v rfl (val_loadB (.tail _ (.head _)) (lk rfl) ag_28) ?_
  refine wl_storeB 3 rfl (lk rfl) (lk rfl) ag_28 rfl rfl ?_
  refine wl_nil ?_
  refine px_then ?_
  refine wc_ret ?_
  refine fin1 rfl (res_cell rfl (.tail _ (.tail _ (.tail _ (.head _)))) ag_28) (fun w1 hw => ?_)
  have hh : a.held id = (nth d0R a.res (a.idx id).toNat).2 := by rw [Acc.held, if_neg (by omega)]
  have hcu : cutR a.res (a.idx id).toNat (a.held id) = cutAt a.res (a.idx id).toNat := if_neg (by rw [hh]; omega)
  rw [hcu] at hgl31 hw
  rw [hrel, ← hh]
  rw [hcu]
  exact ⟨(gb31, gc31, gs31), ⟨hgl31, hgc31⟩, rfl, hw.mask [true, false, false, false, false] rfl⟩

end Go.Proofs.Ytdiojflamjppmaa
