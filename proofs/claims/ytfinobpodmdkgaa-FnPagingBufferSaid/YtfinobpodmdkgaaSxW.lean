/- Lists of payloads: what the functions that only read compute, walked. -/
import Derived.Test.YtfinobpodmdkgaaSxV
namespace Go.Proofs.Ytfinobpodmdkgaa
open Go.RowKit


def tot : PS → Nat
  | [] => 0
  | p :: r => p.length + tot r
theorem tot_nth : ∀ (ps : PS) (k : Nat), (nth [] ps k).length ≤ tot ps
  | [], k => by simp [nth]
  | p :: r, 0 => by simp [nth, tot]
  | p :: r, k + 1 => by
    have := tot_nth r k
    have e : nth [] (p :: r) (k + 1) = nth [] r k := by simp [nth]
    rw [e, tot]
    omega
theorem tot_take : ∀ (ps : PS) (k : Nat), k < ps.length → tot (ps.take (k + 1)) = tot (ps.take k) + (nth [] ps k).length
  | [], k, h => by simp at h
  | p :: r, 0, _ => by simp [nth, tot]
  | p :: r, k + 1, h => by
    have := tot_take r k (by simpa using h)
    have e : nth [] (p :: r) (k + 1) = nth [] r k := by simp [nth]
    rw [e, List.take_succ_cons, List.take_succ_cons, tot, tot, this]
    omega
theorem tot_take_le : ∀ (ps : PS) (k : Nat), tot (ps.take k) ≤ tot ps
  | [], k => by simp [tot]
  | p :: r, 0 => by simp [tot]
  | p :: r, k + 1 => by
    have := tot_take_le r k
    rw [List.take_succ_cons, tot, tot]
    omega
theorem tot_drop_le : ∀ (ps : PS) (k : Nat), tot (ps.drop k) ≤ tot ps
  | [], k => by simp
  | p :: r, 0 => by simp
  | p :: r, k + 1 => by
    have := tot_drop_le r k
    rw [List.drop_succ_cons, tot]
    omega
theorem tot_append : ∀ ps qs : PS, tot (ps ++ qs) = tot ps + tot qs
  | [], qs => by simp [tot]
  | p :: r, qs => by rw [List.cons_append, tot, tot, tot_append r]; omega
theorem cells1 {w0 : World} {bs : List Blk} {G : Bool} {b o : Nat} {v : Value} (h : CellIs w0 bs G b o v) : ∀ j u, [v][j]? = some u → CellIs w0 bs G b (o + j) u
  | 0, u, hu => by
    have : v = u := by simpa using hu
    subst this
    exact h
  | j + 1, u, hu => by simp at hu
def szL : Int → PS → Int
  | m, [] => m
  | m, p :: r => if szN m p.length < 0 then -1 else szL (szN m p.length) r
def szP (m : Int) (ps : PS) : Int := if m - (ps.length : Nat) < 0 then -1 else szL (m - (ps.length : Nat)) ps
theorem szL_le : ∀ {m : Int} {ps : PS}, 0 ≤ szL m ps → (tot ps : Int) ≤ m
  | m, [], h => by simpa [szL, tot] using h
  | m, p :: r, h => by
    unfold szL at h
    split at h
    · omega
    · rename_i h1
      have := szL_le h
      rw [tot]
      unfold szN at h1 this
      split at h1 <;> simp_all <;> omega
theorem szP_le {m : Int} {ps : PS} (h : 0 ≤ szP m ps) : (ps.length : Int) + (tot ps : Int) ≤ m := by
  unfold szP at h
  split at h
  · omega
  · have := szL_le h; omega
theorem szP_ok {ps : PS} (h : ¬ szP 1048576 ps < 0) : ps.length + tot ps ≤ 1048576 := by
  have := szP_le (m := 1048576) (ps := ps) (by omega)
  omega
theorem szL_neg : ∀ {m : Int} {ps : PS}, 0 ≤ m → szL m ps < 0 → szL m ps = -1
  | m, [], h0, h => by simp [szL] at h; omega
  | m, p :: r, h0, h => by
    unfold szL at h ⊢
    split
    · rfl
    · rename_i h1
      rw [if_neg h1] at h
      exact szL_neg (by omega) h
theorem szP_neg {m : Int} {ps : PS} (h : szP m ps < 0) : szP m ps = -1 := by
  unfold szP at h ⊢
  split
  · rfl
  · rename_i h1
    rw [if_neg h1] at h
    exact szL_neg (by omega) h
theorem szN_le {m : Int} (n : Nat) (h : 0 ≤ szN m n) : szN m n ≤ m := by
  unfold szN at h ⊢
  split <;> omega
def eqB (xs ys : List Int) : Bool := eqRows eq8 xs ys
theorem eqB_refl (xs : List Int) : eqB xs xs = true := eqRows_refl eq8_refl xs
def mkP : Nat → PS → PS
  | _, [] => []
  | k, p :: r => mk8 k p.length :: mkP (k + p.length) r
theorem mkP_len : ∀ (k : Nat) (ps : PS), (mkP k ps).length = ps.length
  | _, [] => rfl
  | k, p :: r => by simp [mkP, mkP_len]
theorem mkP_nth : ∀ (k0 : Nat) (ps : PS) (k : Nat), k < ps.length → nth [] (mkP k0 ps) k = mk8 (k0 + tot (ps.take k)) (nth [] ps k).length
  | _, [], k, h => by simp at h
  | k0, p :: r, 0, _ => by simp [nth, tot, mkP]
  | k0, p :: r, k + 1, h => by
    have := mkP_nth (k0 + p.length) r k (by simpa using h)
    have e : nth [] (p :: r) (k + 1) = nth [] r k := by simp [nth]
    have e2 : nth [] (mkP k0 (p :: r)) (k + 1) = nth [] (mkP (k0 + p.length) r) k := by simp [nth, mkP]
    rw [e, e2, this, List.take_succ_cons, tot, Nat.add_assoc]
def fitP (ps : PS) : Bool := ps.all fun p => decide (p.length ≤ 60)
def okBuf (q : Int) (ps : PS) (dr : Int) : Bool := inRange q 0 12 && decide ((ps.length : Int) ≤ q) && fitP ps && decide (0 ≤ dr)
theorem fitP_step {ps : PS} {k : Nat} (hk : k < ps.length) : fitP (ps.drop k) = (decide ((nth [] ps k).length ≤ 60) && fitP (ps.drop (k + 1))) := by
  rw [drop_nth (d := ([] : List Int)) hk]
  simp [fitP]

theorem szPay_c (A : Option Addr) (n c : Nat) (m : Int) (w : World) (h0 : 0 ≤ m ∧ m ≤ 1048576) (hn : n ≤ 9223372036854775807) :
    Calls Try.prog 54 #[.agg #[.slice A n c], .int .i64 m] w fun e w' => e = .returned (.int .i64 (szN m n)) ∧ HP w [] w' := by
  refine calls_entry [] _ Try.func54 rfl Try.ntmps54 (HP.refl w) (env2 rfl) ?_
  refine wc_seq ?_
  refine wc_region ?_
  refine wl_box (lk rfl) rfl fun b1 => ?_
  refine wl_v rfl (val_assign lkc) ?_
  refine wl_nil ?_
  refine px_then ?_
  refine wc_seq ?_
  refine wc_region ?_
  refine wl_v rfl (val_field fo_65_0 (lk rfl)) ?_
  refine wl_v rfl (val_load1 t1_42 (lk rfl) (cell_own (.head _) fun _ => rfl)) ?_
  refine wl_v rfl (val_move (lk rfl)) ?_
  refine wl_call gd_none rfl ci_58 (args2 (lk rfl) (lk rfl)) (fun hG w1 hw => szByteS_c _ _ _ _ w1 h0 hn) ?_
  refine wl_v rfl (val_assign (lk rfl)) ?_
  refine wl_nil ?_
  refine px_then ?_
  refine wc_seq ?_
  refine wc_seq ?_
  refine wc_region ?_
  refine wl_v rfl (val_move (lk rfl)) ?_
  refine wl_v rfl (val_lss (lk rfl) lkc) ?_
  refine wl_nil ?_
  refine px_then ?_
  refine wc_cond (lk rfl) (fun hc0 => ?_) (fun hc0 => ?_)
  · refine wc_seq ?_
    refine wc_region ?_
    refine wl_v rfl (val_assign lkc) ?_
    refine wl_nil ?_
    refine px_then ?_
    refine wc_ret ?_
    refine px_then_ret ?_
    refine fin1 rfl (res_tmp rfl) (fun w1 hw => ?_)
    exact ⟨by have h9 := of_decide_eq_true hc0; unfold szN at h9 ⊢; split at h9 <;> simp_all <;> omega, (hw.drop rfl)⟩
  refine wc_skip ?_
  refine px_then ?_
  refine wc_seq ?_
  refine wc_region ?_
  refine wl_v rfl (val_move (lk rfl)) ?_
  refine wl_v rfl (val_assign (lk rfl)) ?_
  refine wl_nil ?_
  refine px_then ?_
  refine wc_ret ?_
  refine fin1 rfl (res_tmp rfl) (fun w1 hw => ?_)
  exact ⟨rfl, (hw.drop rfl)⟩

theorem szPayS_c (ps : PS) (A : Option Addr) (b o c : Nat) (m : Int) (w : World) (hA : Pay w A b o ps) (hcap : ps.length ≤ 9223372036854775807) (hcaps : ∀ k, k < ps.length → (nth [] ps k).length ≤ 9223372036854775807) (h0 : 0 ≤ m ∧ m ≤ 1048576) :
    Calls Try.prog 35 #[.slice A ps.length c, .int .i64 m] w fun e w' => e = .returned (.int .i64 (szP m ps)) ∧ HP w [] w' := by
  refine calls_entry [] _ Try.func35 rfl Try.ntmps35 (HP.refl w) (env2 rfl) ?_
  refine wc_seq ?_
  refine wc_region ?_
  refine wl_v rfl (val_assign lkc) ?_
  refine wl_nil ?_
  refine px_then ?_
  refine wc_seq ?_
  refine wc_region ?_
  refine wl_v rfl (val_move (lk rfl)) ?_
  refine wl_v rfl (val_move (lk rfl)) ?_
  refine wl_v rfl (val_len es_22 (lk rfl)) ?_
  refine wl_v rfl ((val_sub (lk rfl) (lk rfl)).eq (by rw [wrap64_in' (by omega)])) ?_
  refine wl_v rfl (val_assign (lk rfl)) ?_
  refine wl_nil ?_
  refine px_then ?_
  refine wc_seq ?_
  refine wc_seq ?_
  refine wc_region ?_
  refine wl_v rfl (val_move (lk rfl)) ?_
  refine wl_v rfl (val_lss (lk rfl) lkc) ?_
  refine wl_nil ?_
  refine px_then ?_
  refine wc_cond (lk rfl) (fun hc0 => ?_) (fun hc0 => ?_)
  · refine wc_seq ?_
    refine wc_region ?_
    refine wl_v rfl (val_assign lkc) ?_
    refine wl_nil ?_
    refine px_then ?_
    refine wc_ret ?_
    refine px_then_ret ?_
    refine fin1 rfl (res_tmp rfl) (fun w1 hw => ?_)
    exact ⟨by rw [szP, if_pos (of_decide_eq_true hc0)], (hw.drop rfl)⟩
  refine wc_skip ?_
  refine px_then ?_
  refine wc_seq ?_
  refine wc_seq ?_
  refine wc_region ?_
  refine wl_v rfl (val_assign lkc) ?_
  refine wl_nil ?_
  refine px_then ?_
  refine wc_block ?_
  refine wc_trim (l' := [(0, _), (1, _), (4, _), (5, _)]) ⟨rfl, rfl, rfl, rfl, trivial⟩ ?_
  refine wc_loop0 (X := Nat × Int) (fun x => x.1 ≤ ps.length ∧ (0 ≤ x.2 ∧ x.2 ≤ 1048576) ∧ szL x.2 (ps.drop x.1) = szP m ps) (fun x => [(1, (true, .int .i64 x.2)), (5, (true, .int .i64 (x.1 : Nat)))]) (fun x => ps.length - x.1) (0, m - (ps.length : Nat)) (⟨Nat.zero_le _, by have h9 := of_decide_eq_false hc0; omega, by rw [szP, if_neg (of_decide_eq_false hc0)]; rfl⟩) ⟨rfl, rfl, rfl, rfl, rfl, rfl, trivial⟩ ?_
  rintro ⟨k, q⟩ ⟨hk, hq, ht⟩
  simp only at hk hq ht
  dsimp only
  refine wc_seq ?_
  refine wc_seq ?_
  refine wc_region ?_
  refine wl_v rfl (val_move (lk rfl)) ?_
  refine wl_v rfl (val_move (lk rfl)) ?_
  refine wl_v rfl (val_len es_22 (lk rfl)) ?_
  refine wl_v rfl (val_lss (lk rfl) (lk rfl)) ?_
  refine wl_nil ?_
  refine px_then ?_
  refine wc_cond (lk rfl) (fun hc1 => ?_) (fun hc1 => ?_)
  · have hlt : k < ps.length := by have h9 : ((k : Nat) : Int) < ((ps.length : Nat) : Int) := of_decide_eq_true hc1; omega
    obtain ⟨Bq, bq, oq, cq, hce, hsl⟩ := hA.cell k hlt
    have hcap1 := hcaps k hlt
    refine wc_skip ?_
    refine px_then ?_
    refine wc_seq ?_
    refine wc_block ?_
    refine wc_seq ?_
    refine wc_region ?_
    refine wl_v rfl (val_move (lk rfl)) ?_
    refine wl_v rfl (val_move (lk rfl)) ?_
    refine wl_v rfl (val_index es_22 (lk rfl) (lk rfl) (fun hG => hA.head (by omega)) (fun hG => hlt)) ?_
    refine wl_v rfl (val_loadN ag_65 (lk rfl) rfl (cells1 (cell_old rfl fun _ => hce))) ?_
    refine wl_v rfl (val_move (lk rfl)) ?_
    refine wl_call gd_none rfl ci_54 (args2 (lk rfl) (lk rfl)) (fun hG w1 hw => szPay_c _ _ _ _ w1 hq hcap1) ?_
    refine wl_v rfl (val_assign (lk rfl)) ?_
    refine wl_nil ?_
    refine px_then ?_
    refine wc_seq ?_
    refine wc_region ?_
    refine wl_v rfl (val_move (lk rfl)) ?_
    refine wl_v rfl (val_lss (lk rfl) lkc) ?_
    refine wl_nil ?_
    refine px_then ?_
    refine wc_cond (lk rfl) (fun hc2 => ?_) (fun hc2 => ?_)
    · refine wc_seq ?_
      refine wc_region ?_
      refine wl_v rfl (val_assign lkc) ?_
      refine wl_nil ?_
      refine px_then ?_
      refine wc_ret ?_
      refine px_block_ret ?_
      refine px_then_ret ?_
      refine px_then_ret ?_
      refine px_block_ret ?_
      refine px_then_ret ?_
      refine fin1 rfl (res_tmp rfl) (fun w1 hw => ?_)
      exact ⟨by rw [← ht, drop_nth (d := ([] : List Int)) hlt, szL, if_pos (of_decide_eq_true hc2)], (hw.drop rfl)⟩
    refine wc_skip ?_
    refine px_block ?_
    refine px_then ?_
    refine wc_region ?_
    refine wl_v rfl (val_move (lk rfl)) ?_
    refine wl_v rfl (val_inc (lk rfl) (by omega)) ?_
    refine wl_v rfl (val_assign (lk rfl)) ?_
    refine wl_nil ?_
    refine px_round0 ((k + 1, szN q (nth [] ps k).length)) (⟨by show k + 1 ≤ _; omega, ⟨by have := of_decide_eq_false hc2; simp only; omega, by have := szN_le (nth [] ps k).length (m := q) (by have := of_decide_eq_false hc2; omega); simp only; omega⟩, by rw [← ht, drop_nth (d := ([] : List Int)) hlt, szL, if_neg (of_decide_eq_false hc2)]⟩) (by show ps.length - (k + 1) < ps.length - k; omega) (⟨rfl, rfl, rfl, rfl, rfl, rfl, trivial⟩) (fun _ h => h.dropN 0 rfl)
  have hge : k = ps.length := by have h9 : ¬ ((k : Nat) : Int) < ((ps.length : Nat) : Int) := of_decide_eq_false hc1; omega
  subst hge
  refine wc_exit ?_
  refine px_then_exit ?_
  refine px_then_exit ?_
  refine px_block_exit ?_
  refine px_then ?_
  refine wc_seq ?_
  refine wc_region ?_
  refine wl_v rfl (val_move (lk rfl)) ?_
  refine wl_v rfl (val_assign (lk rfl)) ?_
  refine wl_nil ?_
  refine px_then ?_
  refine wc_ret ?_
  refine fin1 rfl (res_tmp rfl) (fun w1 hw => ?_)
  exact ⟨by rw [← ht]; simp [szL], (hw.drop rfl)⟩

theorem szBuf_c (q dr : Int) (ps : PS) (A : Option Addr) (b o c : Nat) (m : Int) (w : World) (hA : Pay w A b o ps) (hcap : ps.length ≤ 9223372036854775807) (hcaps : ∀ k, k < ps.length → (nth [] ps k).length ≤ 9223372036854775807) (h0 : 0 ≤ m ∧ m ≤ 1048576) :
    Calls Try.prog 9 #[.agg #[.int .i64 q, .slice A ps.length c, .int .i64 dr], .int .i64 m] w fun e w' => e = .returned (.int .i64 (szP m ps)) ∧ HP w [] w' := by
  refine calls_entry [] _ Try.func9 rfl Try.ntmps9 (HP.refl w) (env2 rfl) ?_
  refine wc_seq ?_
  refine wc_region ?_
  refine wl_box (lk rfl) rfl fun b1 => ?_
  refine wl_v rfl (val_assign lkc) ?_
  refine wl_nil ?_
  refine px_then ?_
  refine wc_seq ?_
  refine wc_region ?_
  refine wl_v rfl (val_field fo_24_1 (lk rfl)) ?_
  refine wl_v rfl (val_load1 t1_22 (lk rfl) (cell_own (.head _) fun _ => rfl)) ?_
  refine wl_v rfl (val_move (lk rfl)) ?_
  refine wl_call gd_none rfl ci_35 (args2 (lk rfl) (lk rfl)) (fun hG w1 hw => szPayS_c ps _ _ _ _ m w1 (hA.hp hw rfl) hcap hcaps h0) ?_
  refine wl_v rfl (val_assign (lk rfl)) ?_
  refine wl_nil ?_
  refine px_then ?_
  refine wc_seq ?_
  refine wc_seq ?_
  refine wc_region ?_
  refine wl_v rfl (val_move (lk rfl)) ?_
  refine wl_v rfl (val_lss (lk rfl) lkc) ?_
  refine wl_nil ?_
  refine px_then ?_
  refine wc_cond (lk rfl) (fun hc0 => ?_) (fun hc0 => ?_)
  · refine wc_seq ?_
    refine wc_region ?_
    refine wl_v rfl (val_assign lkc) ?_
    refine wl_nil ?_
    refine px_then ?_
    refine wc_ret ?_
    refine px_then_ret ?_
    refine fin1 rfl (res_tmp rfl) (fun w1 hw => ?_)
    exact ⟨by rw [szP_neg (of_decide_eq_true hc0)], (hw.drop rfl)⟩
  refine wc_skip ?_
  refine px_then ?_
  refine wc_seq ?_
  refine wc_region ?_
  refine wl_v rfl (val_move (lk rfl)) ?_
  refine wl_v rfl (val_assign (lk rfl)) ?_
  refine wl_nil ?_
  refine px_then ?_
  refine wc_ret ?_
  refine fin1 rfl (res_tmp rfl) (fun w1 hw => ?_)
  exact ⟨rfl, (hw.drop rfl)⟩

theorem eqPay_c (xs ys : List Int) (A B : Option Addr) (b o c b2 o2 c2 : Nat) (w : World) (hs : Sl w A b o (bv xs)) (hs2 : Sl w B b2 o2 (bv ys)) (hl : xs.length ≤ 2097152) :
    Calls Try.prog 43 #[.agg #[.slice A xs.length c], .agg #[.slice B ys.length c2]] w fun e w' => e = .returned (.bool (eqB xs ys)) ∧ HP w [] w' := by
  refine calls_entry [] _ Try.func43 rfl Try.ntmps43 (HP.refl w) (env2 rfl) ?_
  refine wc_seq ?_
  refine wc_region ?_
  refine wl_box (lk rfl) rfl fun b1 => ?_
  refine wl_box (lk rfl) rfl fun b2 => ?_
  refine wl_v rfl (val_assign lkc) ?_
  refine wl_nil ?_
  refine px_then ?_
  refine wc_seq ?_
  refine wc_seq ?_
  refine wc_region ?_
  refine wl_v rfl (val_field fo_52_0 (lk rfl)) ?_
  refine wl_v rfl (val_load1 t1_42 (lk rfl) (cell_own (.tail _ (.head _)) fun _ => rfl)) ?_
  refine wl_v rfl (val_field fo_52_0 (lk rfl)) ?_
  refine wl_v rfl (val_load1 t1_42 (lk rfl) (cell_own (.head _) fun _ => rfl)) ?_
  refine wl_call gd_none rfl ci_33 (args2 (lk rfl) (lk rfl)) (fun hG w1 hw => eqByteS_c xs ys _ _ _ _ _ _ _ _ w1 (hs.hp hw rfl) (hs2.hp hw rfl) hl) ?_
  refine wl_v rfl (val_not (lk rfl)) ?_
  refine wl_nil ?_
  refine px_then ?_
  refine wc_cond (lk rfl) (fun hc0 => ?_) (fun hc0 => ?_)
  · refine wc_seq ?_
    refine wc_region ?_
    refine wl_v rfl (val_assign lkc) ?_
    refine wl_nil ?_
    refine px_then ?_
    refine wc_ret ?_
    refine px_then_ret ?_
    refine fin1 rfl (res_tmp rfl) (fun w1 hw => ?_)
    exact ⟨by simp_all [eqB], (hw.drop rfl)⟩
  refine wc_skip ?_
  refine px_then ?_
  refine wc_seq ?_
  refine wc_region ?_
  refine wl_v rfl (val_assign lkc) ?_
  refine wl_nil ?_
  refine px_then ?_
  refine wc_ret ?_
  refine fin1 rfl (res_tmp rfl) (fun w1 hw => ?_)
  exact ⟨by simp_all [eqB], (hw.drop rfl)⟩

theorem eqPayS_c (ps qs : PS) (A B : Option Addr) (b o c b2 o2 c2 : Nat) (w : World) (hA : Pay w A b o ps) (hB : Pay w B b2 o2 qs) (hb : ps.length + tot ps ≤ 2097152) :
    Calls Try.prog 18 #[.slice A ps.length c, .slice B qs.length c2] w fun e w' => e = .returned (.bool (eqRows eqB ps qs)) ∧ HP w [] w' := by
  refine calls_entry [] _ Try.func18 rfl Try.ntmps18 (HP.refl w) (env2 rfl) ?_
  refine wc_seq ?_
  refine wc_region ?_
  refine wl_v rfl (val_assign lkc) ?_
  refine wl_nil ?_
  refine px_then ?_
  refine wc_seq ?_
  refine wc_seq ?_
  refine wc_region ?_
  refine wl_v rfl (val_move (lk rfl)) ?_
  refine wl_v rfl (val_len es_27 (lk rfl)) ?_
  refine wl_v rfl (val_move (lk rfl)) ?_
  refine wl_v rfl (val_len es_27 (lk rfl)) ?_
  refine wl_v rfl (val_neq (lk rfl) (lk rfl)) ?_
  refine wl_nil ?_
  refine px_then ?_
  refine wc_cond (lk rfl) (fun hc0 => ?_) (fun hc0 => ?_)
  · refine wc_seq ?_
    refine wc_region ?_
    refine wl_v rfl (val_assign lkc) ?_
    refine wl_nil ?_
    refine px_then ?_
    refine wc_ret ?_
    refine px_then_ret ?_
    refine fin1 rfl (res_tmp rfl) (fun w1 hw => ?_)
    exact ⟨by rw [eqRows_ne (cast_ne' hc0)], (hw.drop rfl)⟩
  have hxy : ps.length = qs.length := cast_ne hc0
  refine wc_skip ?_
  refine px_then ?_
  refine wc_seq ?_
  refine wc_seq ?_
  refine wc_region ?_
  refine wl_v rfl (val_assign lkc) ?_
  refine wl_nil ?_
  refine px_then ?_
  refine wc_block ?_
  refine wc_trim (l' := [(0, _), (1, _), (4, _), (5, _)]) ⟨rfl, rfl, rfl, rfl, trivial⟩ ?_
  refine wc_loop0 (X := Nat) (fun k => k ≤ ps.length ∧ eqRows eqB (ps.drop k) (qs.drop k) = eqRows eqB ps qs) (fun k => [(5, (true, .int .i64 (k : Nat)))]) (fun k => ps.length - k) 0 (⟨Nat.zero_le _, rfl⟩) ⟨rfl, rfl, rfl, rfl, rfl, trivial⟩ ?_
  rintro k ⟨hk, ht⟩
  refine wc_seq ?_
  refine wc_seq ?_
  refine wc_region ?_
  refine wl_v rfl (val_move (lk rfl)) ?_
  refine wl_v rfl (val_move (lk rfl)) ?_
  refine wl_v rfl (val_len es_27 (lk rfl)) ?_
  refine wl_v rfl (val_lss (lk rfl) (lk rfl)) ?_
  refine wl_nil ?_
  refine px_then ?_
  refine wc_cond (lk rfl) (fun hc1 => ?_) (fun hc1 => ?_)
  · have hlt : k < ps.length := by have := of_decide_eq_true hc1; omega
    have hlt2 : k < qs.length := by omega
    obtain ⟨Bq, bq, oq, cq, hce, hsl⟩ := hA.cell k hlt
    obtain ⟨Bqz, bqz, oqz, cqz, hcez, hslz⟩ := hB.cell k hlt2
    have hn1 := tot_nth ps k
    refine wc_skip ?_
    refine px_then ?_
    refine wc_seq ?_
    refine wc_block ?_
    refine wc_seq ?_
    refine wc_region_q mo_ (by kernel_rfl) ?_
    refine wq_v rfl (val_move (lk rfl)) ?_
    refine wq_v rfl (val_move (lk rfl)) ?_
    refine wq_v rfl (val_index es_27 (lk rfl) (lk rfl) (fun hG => hA.head (by omega)) (fun hG => hlt)) ?_
    refine wq_v rfl (val_loadN ag_52 (lk rfl) rfl (cells1 (cell_old rfl fun _ => hce))) ?_
    refine wq_v rfl (val_move (lk rfl)) ?_
    refine wq_v rfl (val_move (lk rfl)) ?_
    refine wq_v rfl (val_index es_27 (lk rfl) (lk rfl) (fun hG => hB.head (by omega)) (fun hG => hlt2)) ?_
    refine wq_v rfl (val_loadN ag_52 (lk rfl) rfl (cells1 (cell_old rfl fun _ => hcez))) ?_
    refine wq_call gd_none rfl ci_43 (args2 (lk rfl) (lk rfl)) (fun hG w1 hw => eqPay_c (nth [] ps k) (nth [] qs k) _ _ _ _ _ _ _ _ w1 (hsl.hp hw rfl) (hslz.hp hw rfl) (by omega)) ?_
    refine wq_v rfl (val_not (lk rfl)) ?_
    refine wq_nil ?_
    refine px_then ?_
    refine wc_cond (lk rfl) (fun hc2 => ?_) (fun hc2 => ?_)
    · refine wc_seq ?_
      refine wc_region ?_
      refine wl_v rfl (val_assign lkc) ?_
      refine wl_nil ?_
      refine px_then ?_
      refine wc_ret ?_
      refine px_block_ret ?_
      refine px_then_ret ?_
      refine px_then_ret ?_
      refine px_block_ret ?_
      refine px_then_ret ?_
      refine fin1 rfl (res_tmp rfl) (fun w1 hw => ?_)
      exact ⟨by rw [← ht, eqRows_step (d := ([] : List Int)) hlt hlt2, show eqB (nth [] ps k) (nth [] qs k) = false by simpa using hc2]; rfl, (hw.drop rfl)⟩
    refine wc_skip ?_
    refine px_block ?_
    refine px_then ?_
    refine wc_region ?_
    refine wl_v rfl (val_move (lk rfl)) ?_
    refine wl_v rfl (val_inc (lk rfl) (by omega)) ?_
    refine wl_v rfl (val_assign (lk rfl)) ?_
    refine wl_nil ?_
    refine px_round0 (k + 1) (⟨by omega, by rw [← ht, eqRows_step (d := ([] : List Int)) hlt hlt2]; simp at hc2; rw [hc2]; rfl⟩) (by omega) (⟨rfl, rfl, rfl, rfl, rfl, trivial⟩) (fun _ h => h.dropN 0 rfl)
  have hge : k = ps.length := by have := of_decide_eq_false hc1; omega
  subst hge
  refine wc_exit ?_
  refine px_then_exit ?_
  refine px_then_exit ?_
  refine px_block_exit ?_
  refine px_then ?_
  refine wc_seq ?_
  refine wc_region ?_
  refine wl_v rfl (val_assign lkc) ?_
  refine wl_nil ?_
  refine px_then ?_
  refine wc_ret ?_
  refine fin1 rfl (res_tmp rfl) (fun w1 hw => ?_)
  have e1 : ps.drop ps.length = [] := by simp
  have e2 : qs.drop ps.length = [] := by simp [hxy]
  exact ⟨by rw [← ht, e1, e2]; rfl, (hw.drop rfl)⟩

theorem eqBuf_c (q dr q2 dr2 : Int) (ps qs : PS) (A B : Option Addr) (b o c b2 o2 c2 : Nat) (w : World) (hA : Pay w A b o ps) (hB : Pay w B b2 o2 qs) (hb : ps.length + tot ps ≤ 2097152) :
    Calls Try.prog 13 #[.agg #[.int .i64 q, .slice A ps.length c, .int .i64 dr], .agg #[.int .i64 q2, .slice B qs.length c2, .int .i64 dr2]] w fun e w' => e = .returned (.bool ((q == q2) && eqRows eqB ps qs && (dr == dr2))) ∧ HP w [] w' := by
  refine calls_entry [] _ Try.func13 rfl Try.ntmps13 (HP.refl w) (env2 rfl) ?_
  refine wc_seq ?_
  refine wc_region ?_
  refine wl_box (lk rfl) rfl fun b1 => ?_
  refine wl_box (lk rfl) rfl fun b2 => ?_
  refine wl_v rfl (val_assign lkc) ?_
  refine wl_nil ?_
  refine px_then ?_
  refine wc_seq ?_
  refine wc_seq ?_
  refine wc_region ?_
  refine wl_v rfl (val_field fo_29_0 (lk rfl)) ?_
  refine wl_v rfl (val_load1 t1_3 (lk rfl) (cell_own (.tail _ (.head _)) fun _ => rfl)) ?_
  refine wl_v rfl (val_field fo_29_0 (lk rfl)) ?_
  refine wl_v rfl (val_load1 t1_3 (lk rfl) (cell_own (.head _) fun _ => rfl)) ?_
  refine wl_v rfl (val_neq (lk rfl) (lk rfl)) ?_
  refine wl_nil ?_
  refine px_then ?_
  refine wc_cond (lk rfl) (fun hc0 => ?_) (fun hc0 => ?_)
  · refine wc_seq ?_
    refine wc_region ?_
    refine wl_v rfl (val_assign lkc) ?_
    refine wl_nil ?_
    refine px_then ?_
    refine wc_ret ?_
    refine px_then_ret ?_
    refine fin1 rfl (res_tmp rfl) (fun w1 hw => ?_)
    exact ⟨by simp_all, (hw.drop rfl)⟩
  refine wc_skip ?_
  refine px_then ?_
  refine wc_seq ?_
  refine wc_seq ?_
  refine wc_region ?_
  refine wl_v rfl (val_field fo_29_1 (lk rfl)) ?_
  refine wl_v rfl (val_load1 t1_27 (lk rfl) (cell_own (.tail _ (.head _)) fun _ => rfl)) ?_
  refine wl_v rfl (val_field fo_29_1 (lk rfl)) ?_
  refine wl_v rfl (val_load1 t1_27 (lk rfl) (cell_own (.head _) fun _ => rfl)) ?_
  refine wl_call gd_none rfl ci_18 (args2 (lk rfl) (lk rfl)) (fun hG w1 hw => eqPayS_c ps qs _ _ _ _ _ _ _ _ w1 (hA.hp hw rfl) (hB.hp hw rfl) (by omega)) ?_
  refine wl_v rfl (val_not (lk rfl)) ?_
  refine wl_nil ?_
  refine px_then ?_
  refine wc_cond (lk rfl) (fun hc1 => ?_) (fun hc1 => ?_)
  · refine wc_seq ?_
    refine wc_region ?_
    refine wl_v rfl (val_assign lkc) ?_
    refine wl_nil ?_
    refine px_then ?_
    refine wc_ret ?_
    refine px_then_ret ?_
    refine fin1 rfl (res_tmp rfl) (fun w1 hw => ?_)
    exact ⟨by simp_all, (hw.drop rfl)⟩
  refine wc_skip ?_
  refine px_then ?_
  refine wc_seq ?_
  refine wc_seq ?_
  refine wc_region ?_
  refine wl_v rfl (val_field fo_29_2 (lk rfl)) ?_
  refine wl_v rfl (val_load1 t1_3 (lk rfl) (cell_own (.tail _ (.head _)) fun _ => rfl)) ?_
  refine wl_v rfl (val_field fo_29_2 (lk rfl)) ?_
  refine wl_v rfl (val_load1 t1_3 (lk rfl) (cell_own (.head _) fun _ => rfl)) ?_
  refine wl_v rfl (val_neq (lk rfl) (lk rfl)) ?_
  refine wl_nil ?_
  refine px_then ?_
  refine wc_cond (lk rfl) (fun hc2 => ?_) (fun hc2 => ?_)
  · refine wc_seq ?_
    refine wc_region ?_
    refine wl_v rfl (val_assign lkc) ?_
    refine wl_nil ?_
    refine px_then ?_
    refine wc_ret ?_
    refine px_then_ret ?_
    refine fin1 rfl (res_tmp rfl) (fun w1 hw => ?_)
    exact ⟨by simp_all, (hw.drop rfl)⟩
  refine wc_skip ?_
  refine px_then ?_
  refine wc_seq ?_
  refine wc_region ?_
  refine wl_v rfl (val_assign lkc) ?_
  refine wl_nil ?_
  refine px_then ?_
  refine wc_ret ?_
  refine fin1 rfl (res_tmp rfl) (fun w1 hw => ?_)
  exact ⟨by simp_all, (hw.drop rfl)⟩

theorem heldPayS_c (ps : PS) (A : Option Addr) (b o c : Nat) (k0 : Nat) (w : World) (hA : Pay w A b o (mkP k0 ps)) (hb : ps.length + tot ps ≤ 2097152) (hk0 : k0 ≤ 1099511627776 - 4194304) :
    Calls Try.prog 22 #[.slice A ps.length c, .int .i64 (k0 : Nat)] w fun e w' => e = .returned (.int .i64 ((k0 + tot ps : Nat) : Int)) ∧ HP w [] w' := by
  refine calls_entry [] _ Try.func22 rfl Try.ntmps22 (HP.refl w) (env2 rfl) ?_
  refine wc_seq ?_
  refine wc_region ?_
  refine wl_v rfl (val_assign lkc) ?_
  refine wl_nil ?_
  refine px_then ?_
  refine wc_seq ?_
  refine wc_seq ?_
  refine wc_region ?_
  refine wl_v rfl (val_assign lkc) ?_
  refine wl_nil ?_
  refine px_then ?_
  refine wc_block ?_
  refine wc_trim (l' := [(0, _), (1, _), (4, _), (5, _)]) ⟨rfl, rfl, rfl, rfl, trivial⟩ ?_
  refine wc_loop0 (X := Nat) (fun k => k ≤ ps.length) (fun k => [(1, (true, .int .i64 ((k0 + tot (ps.take k) : Nat) : Int))), (5, (true, .int .i64 (k : Nat)))]) (fun k => ps.length - k) 0 (Nat.zero_le _) ⟨slotN (by simp [tot]), rfl, rfl, slotN (by simp [tot]), rfl, rfl, trivial⟩ ?_
  intro k hk
  refine wc_seq ?_
  refine wc_seq ?_
  refine wc_region ?_
  refine wl_v rfl (val_move (lk rfl)) ?_
  refine wl_v rfl (val_move (lk rfl)) ?_
  refine wl_v rfl (val_len es_27 (lk rfl)) ?_
  refine wl_v rfl (val_lss (lk rfl) (lk rfl)) ?_
  refine wl_nil ?_
  refine px_then ?_
  refine wc_cond (lk rfl) (fun hc0 => ?_) (fun hc0 => ?_)
  · have hlt : k < ps.length := by have h9 : ((k : Nat) : Int) < ((ps.length : Nat) : Int) := of_decide_eq_true hc0; omega
    have hltm : k < (mkP k0 ps).length := by rw [mkP_len]; exact hlt
    obtain ⟨Bq, bq, oq, cq, hce, hsl⟩ := hA.cell k hltm
    have hn1 := tot_nth ps k
    have hn2 := tot_take_le ps k
    rw [mkP_nth k0 ps k hlt] at hce hsl
    rw [mk8_len] at hce
    refine wc_skip ?_
    refine px_then ?_
    refine wc_seq ?_
    refine wc_block ?_
    refine wc_seq ?_
    refine wc_region ?_
    refine wl_v rfl (val_move (lk rfl)) ?_
    refine wl_v rfl (val_move (lk rfl)) ?_
    refine wl_v rfl (val_index es_27 (lk rfl) (lk rfl) (fun hG => hA.head (by omega)) (fun hG => hlt)) ?_
    refine wl_v rfl (val_field fo_52_0 (lk rfl)) ?_
    refine wl_v rfl (val_load1 t1_42 (lk rfl) (cell_old rfl fun _ => hce)) ?_
    refine wl_v rfl (val_move (lk rfl)) ?_
    refine wl_call gd_none rfl ci_44 (args2 (lk rfl) (lk rfl)) (fun hG w1 hw => heldByteS_c (k0 + tot (ps.take k)) (nth [] ps k).length _ _ _ _ w1 (hsl.hp hw rfl) (by omega) (by omega)) ?_
    refine wl_v rfl (val_assign (lk rfl)) ?_
    refine wl_nil ?_
    refine px_then ?_
    refine wc_seq ?_
    refine wc_region ?_
    refine wl_v rfl (val_move (lk rfl)) ?_
    refine wl_v rfl (val_lss (lk rfl) lkc) ?_
    refine wl_nil ?_
    refine px_then ?_
    refine wc_cond (lk rfl) (fun hc1 => ?_) (fun hc1 => ?_)
    · (exfalso; have h9 := of_decide_eq_true hc1; omega)
    refine wc_skip ?_
    refine px_block ?_
    refine px_then ?_
    refine wc_region ?_
    refine wl_v rfl (val_move (lk rfl)) ?_
    refine wl_v rfl (val_inc (lk rfl) (by omega)) ?_
    refine wl_v rfl (val_assign (lk rfl)) ?_
    refine wl_nil ?_
    refine px_round0 (k + 1) (by omega) (by omega) (⟨slotN (by rw [tot_take ps k hlt]; omega), rfl, rfl, slotN (by rw [tot_take ps k hlt]; omega), rfl, rfl, trivial⟩) (fun _ h => h.dropN 0 rfl)
  have hge : k = ps.length := by have h9 : ¬ ((k : Nat) : Int) < ((ps.length : Nat) : Int) := of_decide_eq_false hc0; omega
  subst hge
  refine wc_exit ?_
  refine px_then_exit ?_
  refine px_then_exit ?_
  refine px_block_exit ?_
  refine px_then ?_
  refine wc_seq ?_
  refine wc_region ?_
  refine wl_v rfl (val_move (lk rfl)) ?_
  refine wl_v rfl (val_assign (lk rfl)) ?_
  refine wl_nil ?_
  refine px_then ?_
  refine wc_ret ?_
  refine fin1 rfl (res_tmp rfl) (fun w1 hw => ?_)
  exact ⟨by rw [List.take_length], (hw.drop rfl)⟩

theorem heldBuf_c (q dr : Int) (ps : PS) (A : Option Addr) (b o c : Nat) (k0 : Nat) (w : World) (hA : Pay w A b o (mkP k0 ps)) (hb : ps.length + tot ps ≤ 2097152) (hk0 : k0 ≤ 1099511627776 - 4194304) :
    Calls Try.prog 21 #[.agg #[.int .i64 q, .slice A ps.length c, .int .i64 dr], .int .i64 (k0 : Nat)] w fun e w' => e = .returned (.int .i64 ((k0 + tot ps : Nat) : Int)) ∧ HP w [] w' := by
  refine calls_entry [] _ Try.func21 rfl Try.ntmps21 (HP.refl w) (env2 rfl) ?_
  refine wc_seq ?_
  refine wc_region ?_
  refine wl_box (lk rfl) rfl fun b1 => ?_
  refine wl_v rfl (val_assign lkc) ?_
  refine wl_nil ?_
  refine px_then ?_
  refine wc_seq ?_
  refine wc_region ?_
  refine wl_v rfl (val_field fo_29_1 (lk rfl)) ?_
  refine wl_v rfl (val_load1 t1_27 (lk rfl) (cell_own (.head _) fun _ => rfl)) ?_
  refine wl_v rfl (val_move (lk rfl)) ?_
  refine wl_call gd_none rfl ci_22 (args2 (lk rfl) (lk rfl)) (fun hG w1 hw => heldPayS_c ps _ _ _ _ _ w1 (hA.hp hw rfl) hb hk0) ?_
  refine wl_v rfl (val_assign (lk rfl)) ?_
  refine wl_nil ?_
  refine px_then ?_
  refine wc_seq ?_
  refine wc_seq ?_
  refine wc_region ?_
  refine wl_v rfl (val_move (lk rfl)) ?_
  refine wl_v rfl (val_lss (lk rfl) lkc) ?_
  refine wl_nil ?_
  refine px_then ?_
  refine wc_cond (lk rfl) (fun hc0 => ?_) (fun hc0 => ?_)
  · (exfalso; have h9 := of_decide_eq_true hc0; omega)
  refine wc_skip ?_
  refine px_then ?_
  refine wc_seq ?_
  refine wc_region ?_
  refine wl_v rfl (val_move (lk rfl)) ?_
  refine wl_v rfl (val_assign (lk rfl)) ?_
  refine wl_nil ?_
  refine px_then ?_
  refine wc_ret ?_
  refine fin1 rfl (res_tmp rfl) (fun w1 hw => ?_)
  exact ⟨rfl, (hw.drop rfl)⟩

theorem payBytes_c (ps : PS) (A : Option Addr) (b o c : Nat) (w : World) (hA : Pay w A b o ps) (hb : ps.length + tot ps ≤ 2097152) :
    Calls Try.prog 37 #[.slice A ps.length c] w fun e w' => e = .returned (.int .i64 ((tot ps : Nat) : Int)) ∧ HP w [] w' := by
  refine calls_entry [] _ Try.func37 rfl Try.ntmps37 (HP.refl w) (env1 rfl) ?_
  refine wc_seq ?_
  refine wc_region ?_
  refine wl_v rfl (val_assign lkc) ?_
  refine wl_nil ?_
  refine px_then ?_
  refine wc_seq ?_
  refine wc_region ?_
  refine wl_v rfl (val_assign lkc) ?_
  refine wl_nil ?_
  refine px_then ?_
  refine wc_seq ?_
  refine wc_seq ?_
  refine wc_region ?_
  refine wl_v rfl (val_move (lk rfl)) ?_
  refine wl_v rfl (val_len es_27 (lk rfl)) ?_
  refine wl_v rfl (val_move lkc) ?_
  refine wl_nil ?_
  refine px_then ?_
  refine wc_block ?_
  refine wc_trim (l' := [(2, _), (3, _), (6, _), (7, _), (8, _)]) ⟨rfl, rfl, rfl, rfl, rfl, trivial⟩ ?_
  refine wc_loop0 (X := Nat) (fun k => k ≤ ps.length) (fun k => [(3, (true, .int .i64 ((tot (ps.take k) : Nat) : Int))), (8, (true, .int .i64 (k : Nat)))]) (fun k => ps.length - k) 0 (Nat.zero_le _) ⟨slotN (by simp [tot]), rfl, rfl, slotN (by simp [tot]), rfl, rfl, rfl, trivial⟩ ?_
  intro k hk
  refine wc_seq ?_
  refine wc_region ?_
  refine wl_v rfl (val_lss (lk rfl) (lk rfl)) ?_
  refine wl_nil ?_
  refine px_then ?_
  refine wc_seq ?_
  refine wc_cond (lk rfl) (fun hc0 => ?_) (fun hc0 => ?_)
  · have hlt : k < ps.length := by have h9 : ((k : Nat) : Int) < ((ps.length : Nat) : Int) := of_decide_eq_true hc0; omega
    obtain ⟨Bq, bq, oq, cq, hce, hsl⟩ := hA.cell k hlt
    have hn1 := tot_nth ps k
    have hn2 := tot_take_le ps k
    refine wc_skip ?_
    refine px_then ?_
    refine wc_seq ?_
    refine wc_block ?_
    refine wc_seq ?_
    refine wc_region ?_
    refine wl_v rfl (val_index es_27 (lk rfl) (lk rfl) (fun hG => hA.head (by omega)) (fun hG => hlt)) ?_
    refine wl_v rfl (val_loadN ag_52 (lk rfl) rfl (cells1 (cell_old rfl fun _ => hce))) ?_
    refine wl_alloc zc_52 rfl fun b1 => ?_
    refine wl_storeB 0 rfl (lk rfl) (lk rfl) ag_52 rfl rfl ?_
    refine wl_nil ?_
    refine px_then ?_
    refine wc_region ?_
    refine wl_v rfl (val_move (lk rfl)) ?_
    refine wl_v rfl (val_field fo_52_0 (lk rfl)) ?_
    refine wl_v rfl (val_load1 t1_42 (lk rfl) (cell_own (.head _) fun _ => rfl)) ?_
    refine wl_v rfl (val_len es_42 (lk rfl)) ?_
    refine wl_v rfl (val_addN (lk rfl) (lk rfl) (by omega)) ?_
    refine wl_v rfl (val_assign (lk rfl)) ?_
    refine wl_nil ?_
    refine px_block ?_
    refine px_then ?_
    refine wc_region ?_
    refine wl_v rfl (val_inc (lk rfl) (by omega)) ?_
    refine wl_v rfl (val_move (lk rfl)) ?_
    refine wl_nil ?_
    refine px_round0 (k + 1) (by omega) (by omega) (⟨slotN (by rw [tot_take ps k hlt]), rfl, rfl, slotN (by rw [tot_take ps k hlt]), rfl, rfl, rfl, trivial⟩) (fun _ h => h.dropN 1 rfl)
  have hge : k = ps.length := by have h9 : ¬ ((k : Nat) : Int) < ((ps.length : Nat) : Int) := of_decide_eq_false hc0; omega
  subst hge
  refine wc_exit ?_
  refine px_then_exit ?_
  refine px_then_exit ?_
  refine px_block_exit ?_
  refine px_then ?_
  refine wc_seq ?_
  refine wc_region ?_
  refine wl_v rfl (val_move (lk rfl)) ?_
  refine wl_v rfl (val_assign (lk rfl)) ?_
  refine wl_nil ?_
  refine px_then ?_
  refine wc_ret ?_
  refine fin1 rfl (res_tmp rfl) (fun w1 hw => ?_)
  exact ⟨by rw [List.take_length], (hw.drop rfl)⟩

theorem Bytes_c (q dr : Int) (ps : PS) (A : Option Addr) (b o c : Nat) (w : World) (hA : Pay w A b o ps) (hb : ps.length + tot ps ≤ 2097152) :
    Calls Try.prog 12 #[.agg #[.int .i64 q, .slice A ps.length c, .int .i64 dr]] w fun e w' => e = .returned (.int .i64 ((tot ps : Nat) : Int)) ∧ HP w [] w' := by
  refine calls_entry [] _ Try.func12 rfl Try.ntmps12 (HP.refl w) (env1 rfl) ?_
  refine wc_seq ?_
  refine wc_region ?_
  refine wl_box (lk rfl) rfl fun b1 => ?_
  refine wl_v rfl (val_assign lkc) ?_
  refine wl_nil ?_
  refine px_then ?_
  refine wc_seq ?_
  refine wc_region ?_
  refine wl_v rfl (val_field fo_29_1 (lk rfl)) ?_
  refine wl_v rfl (val_load1 t1_27 (lk rfl) (cell_own (.head _) fun _ => rfl)) ?_
  refine wl_call gd_none rfl ci_37 (args1 (lk rfl)) (fun hG w1 hw => payBytes_c ps _ _ _ _ w1 (hA.hp hw rfl) hb) ?_
  refine wl_v rfl (val_assign (lk rfl)) ?_
  refine wl_nil ?_
  refine px_then ?_
  refine wc_ret ?_
  refine fin1 rfl (res_tmp rfl) (fun w1 hw => ?_)
  exact ⟨rfl, (hw.drop rfl)⟩

theorem sBytes_c (q dr : Int) (ps : PS) (A : Option Addr) (b o c : Nat) (w : World) (hA : Pay w A b o ps) (hb : ps.length + tot ps ≤ 2097152) :
    Calls Try.prog 10 #[.agg #[.int .i64 q, .slice A ps.length c, .int .i64 dr]] w fun e w' => e = .returned (.int .i64 ((tot ps : Nat) : Int)) ∧ HP w [] w' := by
  refine calls_entry [] _ Try.func10 rfl Try.ntmps10 (HP.refl w) (env1 rfl) ?_
  refine wc_seq ?_
  refine wc_region ?_
  refine wl_box (lk rfl) rfl fun b1 => ?_
  refine wl_v rfl (val_assign lkc) ?_
  refine wl_nil ?_
  refine px_then ?_
  refine wc_seq ?_
  refine wc_region ?_
  refine wl_v rfl (val_assign lkc) ?_
  refine wl_nil ?_
  refine px_then ?_
  refine wc_seq ?_
  refine wc_seq ?_
  refine wc_region ?_
  refine wl_v rfl (val_assign lkc) ?_
  refine wl_nil ?_
  refine px_then ?_
  refine wc_block ?_
  refine wc_trim (l' := [(1, _), (2, _), (3, _), (4, _)]) ⟨rfl, rfl, rfl, rfl, trivial⟩ ?_
  refine wc_loop0 (X := Nat) (fun k => k ≤ ps.length) (fun k => [(3, (true, .int .i64 ((tot (ps.take k) : Nat) : Int))), (4, (true, .int .i64 (k : Nat)))]) (fun k => ps.length - k) 0 (Nat.zero_le _) ⟨slotN (by simp [tot]), rfl, rfl, rfl, slotN (by simp [tot]), rfl, trivial⟩ ?_
  intro k hk
  refine wc_seq ?_
  refine wc_seq ?_
  refine wc_region ?_
  refine wl_v rfl (val_move (lk rfl)) ?_
  refine wl_v rfl (val_field fo_29_1 (lk rfl)) ?_
  refine wl_v rfl (val_load1 t1_27 (lk rfl) (cell_own (.head _) fun _ => rfl)) ?_
  refine wl_v rfl (val_len es_27 (lk rfl)) ?_
  refine wl_v rfl (val_lss (lk rfl) (lk rfl)) ?_
  refine wl_nil ?_
  refine px_then ?_
  refine wc_cond (lk rfl) (fun hc0 => ?_) (fun hc0 => ?_)
  · have hlt : k < ps.length := by have h9 : ((k : Nat) : Int) < ((ps.length : Nat) : Int) := of_decide_eq_true hc0; omega
    obtain ⟨Bq, bq, oq, cq, hce, hsl⟩ := hA.cell k hlt
    have hn1 := tot_nth ps k
    have hn2 := tot_take_le ps k
    refine wc_skip ?_
    refine px_then ?_
    refine wc_seq ?_
    refine wc_block ?_
    refine wc_region ?_
    refine wl_v rfl (val_move (lk rfl)) ?_
    refine wl_v rfl (val_field fo_29_1 (lk rfl)) ?_
    refine wl_v rfl (val_load1 t1_27 (lk rfl) (cell_own (.head _) fun _ => rfl)) ?_
    refine wl_v rfl (val_move (lk rfl)) ?_
    refine wl_v rfl (val_index es_27 (lk rfl) (lk rfl) (fun hG => hA.head (by omega)) (fun hG => hlt)) ?_
    refine wl_v rfl (val_field fo_52_0 (lk rfl)) ?_
    refine wl_v rfl (val_load1 t1_42 (lk rfl) (cell_old rfl fun _ => hce)) ?_
    refine wl_v rfl (val_len es_42 (lk rfl)) ?_
    refine wl_v rfl (val_addN (lk rfl) (lk rfl) (by omega)) ?_
    refine wl_v rfl (val_assign (lk rfl)) ?_
    refine wl_nil ?_
    refine px_block ?_
    refine px_then ?_
    refine wc_region ?_
    refine wl_v rfl (val_move (lk rfl)) ?_
    refine wl_v rfl (val_inc (lk rfl) (by omega)) ?_
    refine wl_v rfl (val_assign (lk rfl)) ?_
    refine wl_nil ?_
    refine px_round0 (k + 1) (by omega) (by omega) (⟨slotN (by rw [tot_take ps k hlt]), rfl, rfl, rfl, slotN (by rw [tot_take ps k hlt]), rfl, trivial⟩) (fun _ h => h.dropN 0 rfl)
  have hge : k = ps.length := by have h9 : ¬ ((k : Nat) : Int) < ((ps.length : Nat) : Int) := of_decide_eq_false hc0; omega
  subst hge
  refine wc_exit ?_
  refine px_then_exit ?_
  refine px_then_exit ?_
  refine px_block_exit ?_
  refine px_then ?_
  refine wc_seq ?_
  refine wc_region ?_
  refine wl_v rfl (val_move (lk rfl)) ?_
  refine wl_v rfl (val_assign (lk rfl)) ?_
  refine wl_nil ?_
  refine px_then ?_
  refine wc_ret ?_
  refine fin1 rfl (res_tmp rfl) (fun w1 hw => ?_)
  exact ⟨by rw [List.take_length], (hw.drop rfl)⟩

theorem fit_c (ps : PS) (A : Option Addr) (b o c : Nat) (w : World) (hA : Pay w A b o ps) (hb : ps.length + tot ps ≤ 2097152) :
    Calls Try.prog 40 #[.slice A ps.length c] w fun e w' => e = .returned (.bool (fitP ps)) ∧ HP w [] w' := by
  refine calls_entry [] _ Try.func40 rfl Try.ntmps40 (HP.refl w) (env1 rfl) ?_
  refine wc_seq ?_
  refine wc_region ?_
  refine wl_v rfl (val_assign lkc) ?_
  refine wl_nil ?_
  refine px_then ?_
  refine wc_seq ?_
  refine wc_seq ?_
  refine wc_region ?_
  refine wl_v rfl (val_move (lk rfl)) ?_
  refine wl_v rfl (val_len es_27 (lk rfl)) ?_
  refine wl_v rfl (val_move lkc) ?_
  refine wl_nil ?_
  refine px_then ?_
  refine wc_block ?_
  refine wc_trim (l' := [(2, _), (5, _), (6, _), (7, _)]) ⟨rfl, rfl, rfl, rfl, trivial⟩ ?_
  refine wc_loop0 (X := Nat) (fun k => k ≤ ps.length ∧ fitP (ps.drop k) = fitP ps) (fun k => [(7, (true, .int .i64 (k : Nat)))]) (fun k => ps.length - k) 0 (⟨Nat.zero_le _, rfl⟩) ⟨rfl, rfl, rfl, rfl, rfl, trivial⟩ ?_
  rintro k ⟨hk, ht⟩
  refine wc_seq ?_
  refine wc_region ?_
  refine wl_v rfl (val_lss (lk rfl) (lk rfl)) ?_
  refine wl_nil ?_
  refine px_then ?_
  refine wc_seq ?_
  refine wc_cond (lk rfl) (fun hc0 => ?_) (fun hc0 => ?_)
  · have hlt : k < ps.length := by have h9 : ((k : Nat) : Int) < ((ps.length : Nat) : Int) := of_decide_eq_true hc0; omega
    obtain ⟨Bq, bq, oq, cq, hce, hsl⟩ := hA.cell k hlt
    have hn1 := tot_nth ps k
    refine wc_skip ?_
    refine px_then ?_
    refine wc_seq ?_
    refine wc_block ?_
    refine wc_seq ?_
    refine wc_region ?_
    refine wl_v rfl (val_index es_27 (lk rfl) (lk rfl) (fun hG => hA.head (by omega)) (fun hG => hlt)) ?_
    refine wl_v rfl (val_loadN ag_52 (lk rfl) rfl (cells1 (cell_old rfl fun _ => hce))) ?_
    refine wl_alloc zc_52 rfl fun b1 => ?_
    refine wl_storeB 0 rfl (lk rfl) (lk rfl) ag_52 rfl rfl ?_
    refine wl_nil ?_
    refine px_then ?_
    refine wc_seq ?_
    refine wc_region ?_
    refine wl_v rfl (val_field fo_52_0 (lk rfl)) ?_
    refine wl_v rfl (val_load1 t1_42 (lk rfl) (cell_own (.head _) fun _ => rfl)) ?_
    refine wl_v rfl (val_len es_42 (lk rfl)) ?_
    refine wl_v rfl (val_gtr (lk rfl) lkc) ?_
    refine wl_nil ?_
    refine px_then ?_
    refine wc_cond (lk rfl) (fun hc1 => ?_) (fun hc1 => ?_)
    · have hnf : fitP ps = false := by rw [← ht, fitP_step hlt, show decide ((nth [] ps k).length ≤ 60) = false by have := of_decide_eq_true hc1; exact decide_eq_false (by omega)]; rfl
      refine wc_seq ?_
      refine wc_region ?_
      refine wl_v rfl (val_assign lkc) ?_
      refine wl_nil ?_
      refine px_then ?_
      refine wc_ret ?_
      refine px_block_ret ?_
      refine px_then_ret ?_
      refine px_then_ret ?_
      refine px_block_ret ?_
      refine px_then_ret ?_
      refine fin1 rfl (res_tmp rfl) (fun w1 hw => ?_)
      exact ⟨by rw [hnf], (hw.drop rfl)⟩
    refine wc_skip ?_
    refine px_block ?_
    refine px_then ?_
    refine wc_region ?_
    refine wl_v rfl (val_inc (lk rfl) (by omega)) ?_
    refine wl_v rfl (val_move (lk rfl)) ?_
    refine wl_nil ?_
    refine px_round0 (k + 1) (⟨by omega, by rw [← ht, fitP_step hlt, show decide ((nth [] ps k).length ≤ 60) = true by have := of_decide_eq_false hc1; exact decide_eq_true (by omega)]; rfl⟩) (by omega) (⟨rfl, rfl, rfl, rfl, rfl, trivial⟩) (fun _ h => h.dropN 1 rfl)
  have hge : k = ps.length := by have h9 : ¬ ((k : Nat) : Int) < ((ps.length : Nat) : Int) := of_decide_eq_false hc0; omega
  subst hge
  have hf : fitP ps = true := by rw [← ht]; simp [fitP]
  refine wc_exit ?_
  refine px_then_exit ?_
  refine px_then_exit ?_
  refine px_block_exit ?_
  refine px_then ?_
  refine wc_seq ?_
  refine wc_region ?_
  refine wl_v rfl (val_assign lkc) ?_
  refine wl_nil ?_
  refine px_then ?_
  refine wc_ret ?_
  refine fin1 rfl (res_tmp rfl) (fun w1 hw => ?_)
  exact ⟨by rw [hf], (hw.drop rfl)⟩

theorem Valid_c (q dr : Int) (ps : PS) (A : Option Addr) (b o c : Nat) (w : World) (hA : Pay w A b o ps) (hb : ps.length + tot ps ≤ 2097152) :
    Calls Try.prog 15 #[.agg #[.int .i64 q, .slice A ps.length c, .int .i64 dr]] w fun e w' => e = .returned (.bool (okBuf q ps dr)) ∧ HP w [] w' := by
  refine calls_entry [] _ Try.func15 rfl Try.ntmps15 (HP.refl w) (env1 rfl) ?_
  refine wc_seq ?_
  refine wc_region ?_
  refine wl_box (lk rfl) rfl fun b1 => ?_
  refine wl_v rfl (val_assign lkc) ?_
  refine wl_nil ?_
  refine px_then ?_
  refine wc_seq ?_
  refine wc_region ?_
  refine wl_v rfl (val_field fo_29_0 (lk rfl)) ?_
  refine wl_v rfl (val_load1 t1_3 (lk rfl) (cell_own (.head _) fun _ => rfl)) ?_
  refine wl_call gd_none rfl ci_39 (args3 (lk rfl) lkc lkc) (fun hG w1 hw => InRange_c _ _ _ w1) ?_
  refine wl_v rfl (val_move (lk rfl)) ?_
  refine wl_val (gd_t rfl rfl rfl) rfl (val_field fo_29_1 (lk rfl)) ?_
  refine wl_val (gd_t rfl rfl rfl) rfl (val_load1 t1_27 (lkg rfl) (cell_own (.head _) fun _ => rfl)) ?_
  refine wl_val (gd_t rfl rfl rfl) rfl (val_len es_27 (lkg rfl)) ?_
  refine wl_val (gd_t rfl rfl rfl) rfl (val_field fo_29_0 (lk rfl)) ?_
  refine wl_val (gd_t rfl rfl rfl) rfl (val_load1 t1_3 (lkg rfl) (cell_own (.head _) fun _ => rfl)) ?_
  refine wl_val (gd_t rfl rfl rfl) rfl (val_leq (lkg rfl) (lkg rfl)) ?_
  refine wl_v rfl (val_and (lk rfl) (lkg rfl)) ?_
  refine wl_v rfl (val_move (lk rfl)) ?_
  refine wl_val (gd_t rfl rfl rfl) rfl (val_field fo_29_1 (lk rfl)) ?_
  refine wl_val (gd_t rfl rfl rfl) rfl (val_load1 t1_27 (lkg rfl) (cell_own (.head _) fun _ => rfl)) ?_
  refine wl_call (gd_t rfl rfl rfl) rfl ci_40 (args1 (lkg rfl)) (fun hG w1 hw => fit_c ps _ _ _ _ w1 (hA.hp hw rfl) hb) ?_
  refine wl_v rfl (val_and (lk rfl) (lkg rfl)) ?_
  refine wl_v rfl (val_move (lk rfl)) ?_
  refine wl_val (gd_t rfl rfl rfl) rfl (val_field fo_29_2 (lk rfl)) ?_
  refine wl_val (gd_t rfl rfl rfl) rfl (val_load1 t1_3 (lkg rfl) (cell_own (.head _) fun _ => rfl)) ?_
  refine wl_val (gd_t rfl rfl rfl) rfl (val_geq (lkg rfl) lkc) ?_
  refine wl_v rfl (val_and (lk rfl) (lkg rfl)) ?_
  refine wl_v rfl (val_assign (lk rfl)) ?_
  refine wl_nil ?_
  refine px_then ?_
  refine wc_ret ?_
  refine fin1 rfl (res_tmp rfl) (fun w1 hw => ?_)
  exact ⟨rfl, (hw.drop rfl)⟩

theorem sValid_c (q dr : Int) (ps : PS) (A : Option Addr) (b o c : Nat) (w : World) (hA : Pay w A b o ps) (hb : ps.length + tot ps ≤ 2097152) :
    Calls Try.prog 14 #[.agg #[.int .i64 q, .slice A ps.length c, .int .i64 dr]] w fun e w' => e = .returned (.bool (okBuf q ps dr)) ∧ HP w [] w' := by
  refine calls_entry [] _ Try.func14 rfl Try.ntmps14 (HP.refl w) (env1 rfl) ?_
  refine wc_seq ?_
  refine wc_region ?_
  refine wl_box (lk rfl) rfl fun b1 => ?_
  refine wl_v rfl (val_assign lkc) ?_
  refine wl_nil ?_
  refine px_then ?_
  refine wc_seq ?_
  refine wc_seq ?_
  refine wc_region ?_
  refine wl_v rfl (val_assign lkc) ?_
  refine wl_nil ?_
  refine px_then ?_
  refine wc_block ?_
  refine wc_trim (l' := [(1, _), (2, _), (3, _)]) ⟨rfl, rfl, rfl, trivial⟩ ?_
  refine wc_loop0 (X := Nat) (fun k => k ≤ ps.length ∧ fitP (ps.drop k) = fitP ps) (fun k => [(3, (true, .int .i64 (k : Nat)))]) (fun k => ps.length - k) 0 (⟨Nat.zero_le _, rfl⟩) ⟨rfl, rfl, rfl, rfl, trivial⟩ ?_
  rintro k ⟨hk, ht⟩
  refine wc_seq ?_
  refine wc_seq ?_
  refine wc_region ?_
  refine wl_v rfl (val_move (lk rfl)) ?_
  refine wl_v rfl (val_field fo_29_1 (lk rfl)) ?_
  refine wl_v rfl (val_load1 t1_27 (lk rfl) (cell_own (.head _) fun _ => rfl)) ?_
  refine wl_v rfl (val_len es_27 (lk rfl)) ?_
  refine wl_v rfl (val_lss (lk rfl) (lk rfl)) ?_
  refine wl_nil ?_
  refine px_then ?_
  refine wc_cond (lk rfl) (fun hc0 => ?_) (fun hc0 => ?_)
  · have hlt : k < ps.length := by have h9 : ((k : Nat) : Int) < ((ps.length : Nat) : Int) := of_decide_eq_true hc0; omega
    obtain ⟨Bq, bq, oq, cq, hce, hsl⟩ := hA.cell k hlt
    have hn1 := tot_nth ps k
    refine wc_skip ?_
    refine px_then ?_
    refine wc_seq ?_
    refine wc_block ?_
    refine wc_seq ?_
    refine wc_region ?_
    refine wl_v rfl (val_field fo_29_1 (lk rfl)) ?_
    refine wl_v rfl (val_load1 t1_27 (lk rfl) (cell_own (.head _) fun _ => rfl)) ?_
    refine wl_v rfl (val_move (lk rfl)) ?_
    refine wl_v rfl (val_index es_27 (lk rfl) (lk rfl) (fun hG => hA.head (by omega)) (fun hG => hlt)) ?_
    refine wl_v rfl (val_field fo_52_0 (lk rfl)) ?_
    refine wl_v rfl (val_load1 t1_42 (lk rfl) (cell_old rfl fun _ => hce)) ?_
    refine wl_v rfl (val_len es_42 (lk rfl)) ?_
    refine wl_v rfl (val_gtr (lk rfl) lkc) ?_
    refine wl_nil ?_
    refine px_then ?_
    refine wc_cond (lk rfl) (fun hc1 => ?_) (fun hc1 => ?_)
    · have hnf : fitP ps = false := by rw [← ht, fitP_step hlt, show decide ((nth [] ps k).length ≤ 60) = false by have := of_decide_eq_true hc1; exact decide_eq_false (by omega)]; rfl
      refine wc_seq ?_
      refine wc_region ?_
      refine wl_v rfl (val_assign lkc) ?_
      refine wl_nil ?_
      refine px_then ?_
      refine wc_ret ?_
      refine px_block_ret ?_
      refine px_then_ret ?_
      refine px_then_ret ?_
      refine px_block_ret ?_
      refine px_then_ret ?_
      refine fin1 rfl (res_tmp rfl) (fun w1 hw => ?_)
      exact ⟨by rw [okBuf, hnf]; simp, (hw.drop rfl)⟩
    refine wc_skip ?_
    refine px_block ?_
    refine px_then ?_
    refine wc_region ?_
    refine wl_v rfl (val_move (lk rfl)) ?_
    refine wl_v rfl (val_inc (lk rfl) (by omega)) ?_
    refine wl_v rfl (val_assign (lk rfl)) ?_
    refine wl_nil ?_
    refine px_round0 (k + 1) (⟨by omega, by rw [← ht, fitP_step hlt, show decide ((nth [] ps k).length ≤ 60) = true by have := of_decide_eq_false hc1; exact decide_eq_true (by omega)]; rfl⟩) (by omega) (⟨rfl, rfl, rfl, rfl, trivial⟩) (fun _ h => h.dropN 0 rfl)
  have hge : k = ps.length := by have h9 : ¬ ((k : Nat) : Int) < ((ps.length : Nat) : Int) := of_decide_eq_false hc0; omega
  subst hge
  have hf : fitP ps = true := by rw [← ht]; simp [fitP]
  refine wc_exit ?_
  refine px_then_exit ?_
  refine px_then_exit ?_
  refine px_block_exit ?_
  refine px_then ?_
  refine wc_seq ?_
  refine wc_region ?_
  refine wl_v rfl (val_field fo_29_0 (lk rfl)) ?_
  refine wl_v rfl (val_load1 t1_3 (lk rfl) (cell_own (.head _) fun _ => rfl)) ?_
  refine wl_call gd_none rfl ci_38 (args3 (lk rfl) lkc lkc) (fun hG w1 hw => l1In_c _ _ _ w1) ?_
  refine wl_v rfl (val_move (lk rfl)) ?_
  refine wl_val (gd_t rfl rfl rfl) rfl (val_field fo_29_1 (lk rfl)) ?_
  refine wl_val (gd_t rfl rfl rfl) rfl (val_load1 t1_27 (lkg rfl) (cell_own (.head _) fun _ => rfl)) ?_
  refine wl_val (gd_t rfl rfl rfl) rfl (val_len es_27 (lkg rfl)) ?_
  refine wl_val (gd_t rfl rfl rfl) rfl (val_field fo_29_0 (lk rfl)) ?_
  refine wl_val (gd_t rfl rfl rfl) rfl (val_load1 t1_3 (lkg rfl) (cell_own (.head _) fun _ => rfl)) ?_
  refine wl_val (gd_t rfl rfl rfl) rfl (val_leq (lkg rfl) (lkg rfl)) ?_
  refine wl_v rfl (val_and (lk rfl) (lkg rfl)) ?_
  refine wl_v rfl (val_move (lk rfl)) ?_
  refine wl_val (gd_t rfl rfl rfl) rfl (val_field fo_29_2 (lk rfl)) ?_
  refine wl_val (gd_t rfl rfl rfl) rfl (val_load1 t1_3 (lkg rfl) (cell_own (.head _) fun _ => rfl)) ?_
  refine wl_val (gd_t rfl rfl rfl) rfl (val_geq (lkg rfl) lkc) ?_
  refine wl_v rfl (val_and (lk rfl) (lkg rfl)) ?_
  refine wl_v rfl (val_assign (lk rfl)) ?_
  refine wl_nil ?_
  refine px_then ?_
  refine wc_ret ?_
  refine fin1 rfl (res_tmp rfl) (fun w1 hw => ?_)
  exact ⟨by rw [okBuf, hf]; simp, (hw.drop rfl)⟩

end Go.Proofs.Ytfinobpodmdkgaa
