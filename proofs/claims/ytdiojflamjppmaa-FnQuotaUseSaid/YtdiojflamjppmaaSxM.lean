/- The account functions: what each computes, walked. -/
import Derived.Test.YtdiojflamjppmaaSxQ
import Derived.Test.YtdiojflamjppmaaSxE
namespace Go.Proofs.Ytdiojflamjppmaa
open Go.RowKit


structure Acc where
  total : Int
  avail : Int
  spent : Int
  res : List (Int × Int)
def encR (r : Int × Int) : List Int := [r.1, r.2]
theorem encR_len (r : Int × Int) : (encR r).length = 2 := rfl
abbrev d0R : Int × Int := (0, 0)
def Acc.val (a : Acc) (A : Option Addr) (c : Nat) : Value := .agg #[.int .i64 a.total, .int .i64 a.avail, .int .i64 a.spent, .slice A a.res.length c]
def resV (r : Int × Int) : Value := .agg #[.int .i64 r.1, .int .i64 r.2]
def eqR (r s : Int × Int) : Bool := (r.1 == s.1) && (r.2 == s.2)
theorem eqR_refl (r : Int × Int) : eqR r r = true := by simp [eqR]
def totR : Int → List (Int × Int) → Int
  | t, [] => t
  | t, r :: rs => totR (IntKind.i64.wrap (t + r.2)) rs
def okRes : Option Int → List (Int × Int) → Bool
  | _, [] => true
  | p, r :: rs => (decide (0 ≤ r.1) && inRange r.2 1 100000 && (match p with | none => true | some q => decide (q < r.1))) && okRes (some r.1) rs
def prevR (rs : List (Int × Int)) (k : Nat) : Option Int := if k = 0 then none else some (nth d0R rs (k - 1)).1
def Acc.sumOk (a : Acc) : Bool := IntKind.i64.wrap (IntKind.i64.wrap (a.avail + a.spent) + totR 0 a.res) == a.total
def Acc.hdOk (a : Acc) : Bool := inRange a.total 0 100000 && inRange a.avail 0 a.total && inRange a.spent 0 a.total
def Acc.ok (a : Acc) : Bool := a.hdOk && decide (a.res.length ≤ 8) && okRes none a.res && a.sumOk
def Acc.idx (a : Acc) (id : Int) : Int := findI (fun r => r.1 == id) 0 a.res
def Acc.held (a : Acc) (id : Int) : Int := if a.idx id < 0 then 0 else (nth d0R a.res (a.idx id).toNat).2
def Acc.eqb (a c : Acc) : Bool := (a.total == c.total) && (a.avail == c.avail) && (a.spent == c.spent) && eqRows eqR a.res c.res
theorem Acc.eqb_refl (a : Acc) : a.eqb a = true := by simp [Acc.eqb, eqRows_refl eqR_refl]
theorem Acc.idx_lt (a : Acc) (id : Int) (h : 0 ≤ a.idx id) : a.idx id < a.res.length := by
  have := (findI_lt (fun r : Int × Int => r.1 == id) 0 a.res h).2
  simpa [Acc.idx] using this
theorem okRes_step {rs : List (Int × Int)} {k : Nat} (h : k < rs.length) : okRes (prevR rs k) (rs.drop k) =
    ((decide (0 ≤ (nth d0R rs k).1) && inRange (nth d0R rs k).2 1 100000 && (match prevR rs k with | none => true | some q => decide (q < (nth d0R rs k).1))) && okRes (prevR rs (k + 1)) (rs.drop (k + 1))) := by
  rw [drop_nth (d := d0R) h]
  rfl
theorem prevR_pos {rs : List (Int × Int)} {k : Nat} (h : 0 < k) : prevR rs k = some (nth d0R rs (k - 1)).1 := by simp [prevR, Nat.ne_of_gt h]

theorem sTotalReserved_c (a : Acc) (A : Option Addr) (b o c : Nat) (w : World) (hs : Sl w A b o (flat encR a.res)) (hl : a.res.length ≤ 1048576) :
    Calls Try.prog 74 #[a.val A c] w fun e w' => e = .returned (.int .i64 (totR 0 a.res)) ∧ HP w [] w' := by
  refine calls_entry [] _ Try.func74 rfl Try.ntmps74 (HP.refl w) (env1 rfl) ?_
  refine wc_seq ?_
  refine wc_region ?_
  refine wl_box (lk rfl) rfl fun b1 => ?_
  refine wl_v rfl (val_assign lkc) ?_
  refine wl_nil ?_
  refine px_then ?_
  refine wc_seq ?_
  refine wc_region ?_
  refine wl_v rfl (val_assign lkc) ?_
  refine wl_nil ?_
  refine px_then ?_
  refine wc_seq ?_
  refine wc_seq ?_
  refine wc_region ?_
  refine wl_v rfl (val_assign lkc) ?_
  refine wl_nil ?_
  refine px_then ?_
  refine wc_block ?_
  refine wc_trim (l' := [(1, _), (2, _), (3, _), (4, _)]) ⟨rfl, rfl, rfl, rfl, trivial⟩ ?_
  refine wc_loop0 (X := Nat × Int) (fun x => x.1 ≤ a.res.length ∧ totR x.2 (a.res.drop x.1) = totR 0 a.res) (fun x => [(4, (true, .int .i64 (x.1 : Nat))), (3, (true, .int .i64 x.2))]) (fun x => a.res.length - x.1) (0, 0) (⟨Nat.zero_le _, rfl⟩) ⟨rfl, rfl, rfl, rfl, rfl, rfl, trivial⟩ ?_
  rintro ⟨k, t⟩ ⟨hk, ht⟩
  refine wc_seq ?_
  refine wc_seq ?_
  refine wc_region ?_
  refine wl_v rfl (val_move (lk rfl)) ?_
  refine wl_v rfl (val_field fo_28_3 (lk rfl)) ?_
  refine wl_v rfl (val_load1 t1_26 (lk rfl) (cell_own (.head _) fun _ => rfl)) ?_
  refine wl_v rfl (val_len es_26 (lk rfl)) ?_
  refine wl_v rfl (val_lss (lk rfl) (lk rfl)) ?_
  refine wl_nil ?_
  refine px_then ?_
  refine wc_cond (lk rfl) (fun hc0 => ?_) (fun hc0 => ?_)
  · have hlt : k < a.res.length := by have := of_decide_eq_true hc0; omega
    refine wc_skip ?_
    refine px_then ?_
    refine wc_seq ?_
    refine wc_block ?_
    refine wc_region ?_
    refine wl_v rfl (val_move (lk rfl)) ?_
    refine wl_v rfl (val_field fo_28_3 (lk rfl)) ?_
    refine wl_v rfl (val_load1 t1_26 (lk rfl) (cell_own (.head _) fun _ => rfl)) ?_
    refine wl_v rfl (val_move (lk rfl)) ?_
    refine wl_v rfl (val_index es_26 (lk rfl) (lk rfl) (fun hG => hs.hd encR_len (by decide) (i := k) hlt) (fun hG => hlt)) ?_
    refine wl_v rfl (val_field fo_71_1 (lk rfl)) ?_
    refine wl_v rfl (val_load1 t1_3 (lk rfl) (cell_old rfl fun _ => hs.fld encR_len d0R (i := k) (f := 1) hlt (by decide) rfl)) ?_
    refine wl_v rfl (val_add (lk rfl) (lk rfl)) ?_
    refine wl_v rfl (val_assign (lk rfl)) ?_
    refine wl_nil ?_
    refine px_block ?_
    refine px_then ?_
    refine wc_region ?_
    refine wl_v rfl (val_move (lk rfl)) ?_
    refine wl_v rfl (val_inc (lk rfl) (by omega)) ?_
    refine wl_v rfl (val_assign (lk rfl)) ?_
    refine wl_nil ?_
    refine px_round0 ((k + 1, IntKind.i64.wrap (t + (nth d0R a.res k).2))) (⟨by omega, by rw [← ht, drop_nth (d := d0R) hlt, totR]⟩) (by show a.res.length - (k + 1) < a.res.length - k; omega) (⟨rfl, rfl, rfl, rfl, rfl, rfl, trivial⟩) (fun _ h => h.dropN 0 rfl)
  have hge : k = a.res.length := by have := of_decide_eq_false hc0; simp only [] at hk; omega
  subst hge
  refine wc_exit ?_
  refine px_then_exit ?_
  refine px_then_exit ?_
  refine px_block_exit ?_
  refine px_then ?_
  refine wc_seq ?_
  refine wc_region ?_
  refine wl_v rfl (val_move (lk rfl)) ?_
  refine wl_v rfl (val_assign (lk rfl)) ?_
  refine wl_nil ?_
  refine px_then ?_
  refine wc_ret ?_
  refine fin1 rfl (res_tmp rfl) (fun w1 hw => ?_)
  exact ⟨by rw [← ht]; simp [totR], hw.drop rfl⟩

theorem TotalReserved_c (a : Acc) (A : Option Addr) (b o c : Nat) (w : World) (hs : Sl w A b o (flat encR a.res)) (hl : a.res.length ≤ 1048576) :
    Calls Try.prog 70 #[a.val A c] w fun e w' => e = .returned (.int .i64 (totR 0 a.res)) ∧ HP w [] w' := by
  refine calls_entry [] _ Try.func70 rfl Try.ntmps70 (HP.refl w) (env1 rfl) ?_
  refine wc_seq ?_
  refine wc_region ?_
  refine wl_box (lk rfl) rfl fun b1 => ?_
  refine wl_v rfl (val_assign lkc) ?_
  refine wl_nil ?_
  refine px_then ?_
  refine wc_seq ?_
  refine wc_region ?_
  refine wl_v rfl (val_assign lkc) ?_
  refine wl_nil ?_
  refine px_then ?_
  refine wc_seq ?_
  refine wc_seq ?_
  refine wc_region ?_
  refine wl_v rfl (val_field fo_28_3 (lk rfl)) ?_
  refine wl_v rfl (val_load1 t1_26 (lk rfl) (cell_own (.head _) fun _ => rfl)) ?_
  refine wl_v rfl (val_len es_26 (lk rfl)) ?_
  refine wl_v rfl (val_move lkc) ?_
  refine wl_nil ?_
  refine px_then ?_
  refine wc_block ?_
  refine wc_trim (l' := [(2, _), (3, _), (7, _), (8, _), (9, _)]) ⟨rfl, rfl, rfl, rfl, rfl, trivial⟩ ?_
  refine wc_loop0 (X := Nat × Int) (fun x => x.1 ≤ a.res.length ∧ totR x.2 (a.res.drop x.1) = totR 0 a.res) (fun x => [(9, (true, .int .i64 (x.1 : Nat))), (3, (true, .int .i64 x.2))]) (fun x => a.res.length - x.1) (0, 0) (⟨Nat.zero_le _, rfl⟩) ⟨rfl, rfl, rfl, rfl, rfl, rfl, rfl, trivial⟩ ?_
  rintro ⟨k, t⟩ ⟨hk, ht⟩
  refine wc_seq ?_
  refine wc_region ?_
  refine wl_v rfl (val_lss (lk rfl) (lk rfl)) ?_
  refine wl_nil ?_
  refine px_then ?_
  refine wc_seq ?_
  refine wc_cond (lk rfl) (fun hc0 => ?_) (fun hc0 => ?_)
  · have hlt : k < a.res.length := by have := of_decide_eq_true hc0; omega
    refine wc_skip ?_
    refine px_then ?_
    refine wc_seq ?_
    refine wc_block ?_
    refine wc_seq ?_
    refine wc_region ?_
    refine wl_v rfl (val_index es_26 (lk rfl) (lk rfl) (fun hG => hs.hd encR_len (by decide) (i := k) hlt) (fun hG => hlt)) ?_
    refine wl_v rfl (val_loadN ag_71 (lk rfl) rfl (hs.rec_ rfl encR_len d0R (fun _ => hlt))) ?_
    refine wl_alloc zc_71 rfl fun b2 => ?_
    refine wl_storeB 0 rfl (lk rfl) (lk rfl) ag_71 rfl rfl ?_
    refine wl_nil ?_
    refine px_then ?_
    refine wc_region ?_
    refine wl_v rfl (val_move (lk rfl)) ?_
    refine wl_v rfl (val_field fo_71_1 (lk rfl)) ?_
    refine wl_v rfl (val_load1 t1_3 (lk rfl) (cell_own (.head _) fun _ => rfl)) ?_
    refine wl_v rfl (val_add (lk rfl) (lk rfl)) ?_
    refine wl_v rfl (val_assign (lk rfl)) ?_
    refine wl_nil ?_
    refine px_block ?_
    refine px_then ?_
    refine wc_region ?_
    refine wl_v rfl (val_inc (lk rfl) (by omega)) ?_
    refine wl_v rfl (val_move (lk rfl)) ?_
    refine wl_nil ?_
    refine px_round0 ((k + 1, IntKind.i64.wrap (t + (nth d0R a.res k).2))) (⟨by omega, by rw [← ht, drop_nth (d := d0R) hlt, totR]⟩) (by show a.res.length - (k + 1) < a.res.length - k; omega) (⟨rfl, rfl, rfl, rfl, rfl, rfl, rfl, trivial⟩) (fun _ h => h.dropN 1 rfl)
  have hge : k = a.res.length := by have := of_decide_eq_false hc0; simp only [] at hk; omega
  subst hge
  refine wc_exit ?_
  refine px_then_exit ?_
  refine px_then_exit ?_
  refine px_block_exit ?_
  refine px_then ?_
  refine wc_seq ?_
  refine wc_region ?_
  refine wl_v rfl (val_move (lk rfl)) ?_
  refine wl_v rfl (val_assign (lk rfl)) ?_
  refine wl_nil ?_
  refine px_then ?_
  refine wc_ret ?_
  refine fin1 rfl (res_tmp rfl) (fun w1 hw => ?_)
  exact ⟨by rw [← ht]; simp [totR], hw.drop rfl⟩

theorem sFind_c (a : Acc) (A : Option Addr) (b o c : Nat) (id : Int) (w : World) (hs : Sl w A b o (flat encR a.res)) (hl : a.res.length ≤ 1048576) :
    Calls Try.prog 53 #[a.val A c, .int .i64 id] w fun e w' => e = .returned (.int .i64 (a.idx id)) ∧ HP w [] w' := by
  refine calls_entry [] _ Try.func53 rfl Try.ntmps53 (HP.refl w) (env2 rfl) ?_
  refine wc_seq ?_
  refine wc_region ?_
  refine wl_box (lk rfl) rfl fun b1 => ?_
  refine wl_v rfl (val_assign lkc) ?_
  refine wl_nil ?_
  refine px_then ?_
  refine wc_seq ?_
  refine wc_seq ?_
  refine wc_region ?_
  refine wl_v rfl (val_assign lkc) ?_
  refine wl_nil ?_
  refine px_then ?_
  refine wc_block ?_
  refine wc_trim (l' := [(1, _), (2, _), (4, _), (5, _)]) ⟨rfl, rfl, rfl, rfl, trivial⟩ ?_
  refine wc_loop0 (X := Nat) (fun k => k ≤ a.res.length ∧ findI (fun r => r.1 == id) k (a.res.drop k) = a.idx id) (fun k => [(5, (true, .int .i64 (k : Nat)))]) (fun k => a.res.length - k) 0 (⟨Nat.zero_le _, rfl⟩) ⟨rfl, rfl, rfl, rfl, rfl, trivial⟩ ?_
  rintro k ⟨hk, ht⟩
  refine wc_seq ?_
  refine wc_seq ?_
  refine wc_region ?_
  refine wl_v rfl (val_move (lk rfl)) ?_
  refine wl_v rfl (val_field fo_28_3 (lk rfl)) ?_
  refine wl_v rfl (val_load1 t1_26 (lk rfl) (cell_own (.head _) fun _ => rfl)) ?_
  refine wl_v rfl (val_len es_26 (lk rfl)) ?_
  refine wl_v rfl (val_lss (lk rfl) (lk rfl)) ?_
  refine wl_nil ?_
  refine px_then ?_
  refine wc_cond (lk rfl) (fun hc0 => ?_) (fun hc0 => ?_)
  · have hlt : k < a.res.length := by have := of_decide_eq_true hc0; omega
    refine wc_skip ?_
    refine px_then ?_
    refine wc_seq ?_
    refine wc_block ?_
    refine wc_seq ?_
    refine wc_region ?_
    refine wl_v rfl (val_field fo_28_3 (lk rfl)) ?_
    refine wl_v rfl (val_load1 t1_26 (lk rfl) (cell_own (.head _) fun _ => rfl)) ?_
    refine wl_v rfl (val_move (lk rfl)) ?_
    refine wl_v rfl (val_index es_26 (lk rfl) (lk rfl) (fun hG => hs.hd encR_len (by decide) (i := k) hlt) (fun hG => hlt)) ?_
    refine wl_v rfl (val_field fo_71_0 (lk rfl)) ?_
    refine wl_v rfl (val_load1 t1_3 (lk rfl) (cell_old rfl fun _ => hs.fld encR_len d0R (i := k) (f := 0) hlt (by decide) rfl)) ?_
    refine wl_v rfl (val_move (lk rfl)) ?_
    refine wl_v rfl (val_eql (lk rfl) (lk rfl)) ?_
    refine wl_nil ?_
    refine px_then ?_
    refine wc_cond (lk rfl) (fun hc1 => ?_) (fun hc1 => ?_)
    · refine wc_seq ?_
      refine wc_region ?_
      refine wl_v rfl (val_move (lk rfl)) ?_
      refine wl_v rfl (val_assign (lk rfl)) ?_
      refine wl_nil ?_
      refine px_then ?_
      refine wc_ret ?_
      refine px_block_ret ?_
      refine px_then_ret ?_
      refine px_then_ret ?_
      refine px_block_ret ?_
      refine px_then_ret ?_
      refine fin1 rfl (res_tmp rfl) (fun w1 hw => ?_)
      exact ⟨by rw [← ht, drop_nth (d := d0R) hlt, findI, if_pos (by simpa using hc1)], hw.drop rfl⟩
    refine wc_skip ?_
    refine px_block ?_
    refine px_then ?_
    refine wc_region ?_
    refine wl_v rfl (val_move (lk rfl)) ?_
    refine wl_v rfl (val_inc (lk rfl) (by omega)) ?_
    refine wl_v rfl (val_assign (lk rfl)) ?_
    refine wl_nil ?_
    refine px_round0 (k + 1) (⟨by omega, by rw [← ht, drop_nth (d := d0R) hlt, findI, if_neg (by simpa using hc1)]⟩) (by omega) (⟨rfl, rfl, rfl, rfl, rfl, trivial⟩) (fun _ h => h.dropN 0 rfl)
  have hge : k = a.res.length := by have := of_decide_eq_false hc0; omega
  subst hge
  refine wc_exit ?_
  refine px_then_exit ?_
  refine px_then_exit ?_
  refine px_block_exit ?_
  refine px_then ?_
  refine wc_seq ?_
  refine wc_region ?_
  refine wl_v rfl (val_assign lkc) ?_
  refine wl_nil ?_
  refine px_then ?_
  refine wc_ret ?_
  refine fin1 rfl (res_tmp rfl) (fun w1 hw => ?_)
  exact ⟨by rw [← ht]; simp [findI], hw.drop rfl⟩

theorem Find_c (a : Acc) (A : Option Addr) (b o c : Nat) (id : Int) (w : World) (hs : Sl w A b o (flat encR a.res)) (hl : a.res.length ≤ 1048576) :
    Calls Try.prog 56 #[a.val A c, .int .i64 id] w fun e w' => e = .returned (.int .i64 (a.idx id)) ∧ HP w [] w' := by
  refine calls_entry [] _ Try.func56 rfl Try.ntmps56 (HP.refl w) (env2 rfl) ?_
  refine wc_seq ?_
  refine wc_region ?_
  refine wl_box (lk rfl) rfl fun b1 => ?_
  refine wl_v rfl (val_assign lkc) ?_
  refine wl_nil ?_
  refine px_then ?_
  refine wc_seq ?_
  refine wc_seq ?_
  refine wc_region ?_
  refine wl_v rfl (val_field fo_28_3 (lk rfl)) ?_
  refine wl_v rfl (val_load1 t1_26 (lk rfl) (cell_own (.head _) fun _ => rfl)) ?_
  refine wl_v rfl (val_len es_26 (lk rfl)) ?_
  refine wl_v rfl (val_move lkc) ?_
  refine wl_nil ?_
  refine px_then ?_
  refine wc_block ?_
  refine wc_trim (l' := [(1, _), (4, _), (8, _), (9, _), (10, _)]) ⟨rfl, rfl, rfl, rfl, rfl, trivial⟩ ?_
  refine wc_loop0 (X := Nat) (fun k => k ≤ a.res.length ∧ findI (fun r => r.1 == id) k (a.res.drop k) = a.idx id) (fun k => [(10, (true, .int .i64 (k : Nat)))]) (fun k => a.res.length - k) 0 (⟨Nat.zero_le _, rfl⟩) ⟨rfl, rfl, rfl, rfl, rfl, rfl, trivial⟩ ?_
  rintro k ⟨hk, ht⟩
  refine wc_seq ?_
  refine wc_region ?_
  refine wl_v rfl (val_lss (lk rfl) (lk rfl)) ?_
  refine wl_nil ?_
  refine px_then ?_
  refine wc_seq ?_
  refine wc_cond (lk rfl) (fun hc0 => ?_) (fun hc0 => ?_)
  · have hlt : k < a.res.length := by have := of_decide_eq_true hc0; omega
    refine wc_skip ?_
    refine px_then ?_
    refine wc_seq ?_
    refine wc_block ?_
    refine wc_seq ?_
    refine wc_region ?_
    refine wl_v rfl (val_move (lk rfl)) ?_
    refine wl_v rfl (val_index es_26 (lk rfl) (lk rfl) (fun hG => hs.hd encR_len (by decide) (i := k) hlt) (fun hG => hlt)) ?_
    refine wl_v rfl (val_loadN ag_71 (lk rfl) rfl (hs.rec_ rfl encR_len d0R (fun _ => hlt))) ?_
    refine wl_alloc zc_71 rfl fun b2 => ?_
    refine wl_v rfl (val_assign (lk rfl)) ?_
    refine wl_storeB 0 rfl (lk rfl) (lk rfl) ag_71 rfl rfl ?_
    refine wl_nil ?_
    refine px_then ?_
    refine wc_seq ?_
    refine wc_region ?_
    refine wl_v rfl (val_field fo_71_0 (lk rfl)) ?_
    refine wl_v rfl (val_load1 t1_3 (lk rfl) (cell_own (.head _) fun _ => rfl)) ?_
    refine wl_v rfl (val_move (lk rfl)) ?_
    refine wl_v rfl (val_eql (lk rfl) (lk rfl)) ?_
    refine wl_nil ?_
    refine px_then ?_
    refine wc_cond (lk rfl) (fun hc1 => ?_) (fun hc1 => ?_)
    · refine wc_seq ?_
      refine wc_region ?_
      refine wl_v rfl (val_move (lk rfl)) ?_
      refine wl_v rfl (val_assign (lk rfl)) ?_
      refine wl_nil ?_
      refine px_then ?_
      refine wc_ret ?_
      refine px_block_ret ?_
      refine px_then_ret ?_
      refine px_then_ret ?_
      refine px_block_ret ?_
      refine px_then_ret ?_
      refine fin1 rfl (res_tmp rfl) (fun w1 hw => ?_)
      exact ⟨by rw [← ht, drop_nth (d := d0R) hlt, findI, if_pos (by simpa using hc1)], hw.drop rfl⟩
    refine wc_skip ?_
    refine px_block ?_
    refine px_then ?_
    refine wc_region ?_
    refine wl_v rfl (val_inc (lk rfl) (by omega)) ?_
    refine wl_v rfl (val_move (lk rfl)) ?_
    refine wl_nil ?_
    refine px_round0 (k + 1) (⟨by omega, by rw [← ht, drop_nth (d := d0R) hlt, findI, if_neg (by simpa using hc1)]⟩) (by omega) (⟨rfl, rfl, rfl, rfl, rfl, rfl, trivial⟩) (fun _ h => h.dropN 1 rfl)
  have hge : k = a.res.length := by have := of_decide_eq_false hc0; omega
  subst hge
  refine wc_exit ?_
  refine px_then_exit ?_
  refine px_then_exit ?_
  refine px_block_exit ?_
  refine px_then ?_
  refine wc_seq ?_
  refine wc_region ?_
  refine wl_v rfl (val_assign lkc) ?_
  refine wl_nil ?_
  refine px_then ?_
  refine wc_ret ?_
  refine fin1 rfl (res_tmp rfl) (fun w1 hw => ?_)
  exact ⟨by rw [← ht]; simp [findI], hw.drop rfl⟩

theorem sReservedFor_c (a : Acc) (A : Option Addr) (b o c : Nat) (id : Int) (w : World) (hs : Sl w A b o (flat encR a.res)) (hl : a.res.length ≤ 1048576) :
    Calls Try.prog 45 #[a.val A c, .int .i64 id] w fun e w' => e = .returned (.int .i64 (a.held id)) ∧ HP w [] w' := by
  refine calls_entry [] _ Try.func45 rfl Try.ntmps45 (HP.refl w) (env2 rfl) ?_
  refine wc_seq ?_
  refine wc_region ?_
  refine wl_box (lk rfl) rfl fun b1 => ?_
  refine wl_v rfl (val_assign lkc) ?_
  refine wl_nil ?_
  refine px_then ?_
  refine wc_seq ?_
  refine wc_region ?_
  refine wl_v rfl (val_loadB (.head _) (lk rfl) ag_28) ?_
  refine wl_v rfl (val_move (lk rfl)) ?_
  refine wl_call gd_none rfl ci_53 (args2 (lk rfl) (lk rfl)) (fun hG w1 hw => sFind_c a _ _ _ _ id w1 (hs.hp hw rfl) hl) ?_
  refine wl_v rfl (val_assign (lk rfl)) ?_
  refine wl_nil ?_
  refine px_then ?_
  refine wc_seq ?_
  refine wc_seq ?_
  refine wc_region ?_
  refine wl_v rfl (val_move (lk rfl)) ?_
  refine wl_v rfl (val_lss (lk rfl) lkc) ?_
  refine wl_nil ?_
  refine px_then ?_
  refine wc_cond (lk rfl) (fun hc0 => ?_) (fun hc0 => ?_)
  · refine wc_seq ?_
    refine wc_region ?_
    refine wl_v rfl (val_assign lkc) ?_
    refine wl_nil ?_
    refine px_then ?_
    refine wc_ret ?_
    refine px_then_ret ?_
    refine fin1 rfl (res_tmp rfl) (fun w1 hw => ?_)
    exact ⟨by rw [Acc.held, if_pos (by simpa using hc0)], hw.drop rfl⟩
  have h0 : 0 ≤ a.idx id := by have := of_decide_eq_false hc0; omega
  have hlt := a.idx_lt id h0
  refine wc_skip ?_
  refine px_then ?_
  refine wc_seq ?_
  refine wc_region ?_
  refine wl_v rfl (val_field fo_28_3 (lk rfl)) ?_
  refine wl_v rfl (val_load1 t1_26 (lk rfl) (cell_own (.head _) fun _ => rfl)) ?_
  refine wl_v rfl (val_move (lk rfl)) ?_
  refine wl_v rfl (val_indexI es_26 (lk rfl) (lk rfl) (fun _ => hs.hd encR_len (by decide) (i := (a.idx id).toNat) (by omega)) (fun _ => ⟨h0, hlt⟩)) ?_
  refine wl_v rfl (val_field fo_71_1 (lk rfl)) ?_
  refine wl_v rfl (val_load1 t1_3 (lk rfl) (cell_old rfl fun _ => hs.fld encR_len d0R (i := (a.idx id).toNat) (f := 1) (by omega) (by decide) rfl)) ?_
  refine wl_v rfl (val_assign (lk rfl)) ?_
  refine wl_nil ?_
  refine px_then ?_
  refine wc_ret ?_
  refine fin1 rfl (res_tmp rfl) (fun w1 hw => ?_)
  exact ⟨by rw [Acc.held, if_neg (by simpa using hc0)], hw.drop rfl⟩

theorem ReservedFor_c (a : Acc) (A : Option Addr) (b o c : Nat) (id : Int) (w : World) (hs : Sl w A b o (flat encR a.res)) (hl : a.res.length ≤ 1048576) :
    Calls Try.prog 43 #[a.val A c, .int .i64 id] w fun e w' => e = .returned (.int .i64 (a.held id)) ∧ HP w [] w' := by
  refine calls_entry [] _ Try.func43 rfl Try.ntmps43 (HP.refl w) (env2 rfl) ?_
  refine wc_seq ?_
  refine wc_region ?_
  refine wl_box (lk rfl) rfl fun b1 => ?_
  refine wl_v rfl (val_assign lkc) ?_
  refine wl_nil ?_
  refine px_then ?_
  refine wc_seq ?_
  refine wc_region ?_
  refine wl_v rfl (val_loadB (.head _) (lk rfl) ag_28) ?_
  refine wl_v rfl (val_move (lk rfl)) ?_
  refine wl_call gd_none rfl ci_56 (args2 (lk rfl) (lk rfl)) (fun hG w1 hw => Find_c a _ _ _ _ id w1 (hs.hp hw rfl) hl) ?_
  refine wl_v rfl (val_assign (lk rfl)) ?_
  refine wl_nil ?_
  refine px_then ?_
  refine wc_seq ?_
  refine wc_seq ?_
  refine wc_region ?_
  refine wl_v rfl (val_move (lk rfl)) ?_
  refine wl_v rfl (val_lss (lk rfl) lkc) ?_
  refine wl_nil ?_
  refine px_then ?_
  refine wc_cond (lk rfl) (fun hc0 => ?_) (fun hc0 => ?_)
  · refine wc_seq ?_
    refine wc_region ?_
    refine wl_v rfl (val_assign lkc) ?_
    refine wl_nil ?_
    refine px_then ?_
    refine wc_ret ?_
    refine px_then_ret ?_
    refine fin1 rfl (res_tmp rfl) (fun w1 hw => ?_)
    exact ⟨by rw [Acc.held, if_pos (by simpa using hc0)], hw.drop rfl⟩
  have h0 : 0 ≤ a.idx id := by have := of_decide_eq_false hc0; omega
  have hlt := a.idx_lt id h0
  refine wc_skip ?_
  refine px_then ?_
  refine wc_seq ?_
  refine wc_region ?_
  refine wl_v rfl (val_field fo_28_3 (lk rfl)) ?_
  refine wl_v rfl (val_load1 t1_26 (lk rfl) (cell_own (.head _) fun _ => rfl)) ?_
  refine wl_v rfl (val_move (lk rfl)) ?_
  refine wl_v rfl (val_indexI es_26 (lk rfl) (lk rfl) (fun _ => hs.hd encR_len (by decide) (i := (a.idx id).toNat) (by omega)) (fun _ => ⟨h0, hlt⟩)) ?_
  refine wl_v rfl (val_field fo_71_1 (lk rfl)) ?_
  refine wl_v rfl (val_load1 t1_3 (lk rfl) (cell_old rfl fun _ => hs.fld encR_len d0R (i := (a.idx id).toNat) (f := 1) (by omega) (by decide) rfl)) ?_
  refine wl_v rfl (val_assign (lk rfl)) ?_
  refine wl_nil ?_
  refine px_then ?_
  refine wc_ret ?_
  refine fin1 rfl (res_tmp rfl) (fun w1 hw => ?_)
  exact ⟨by rw [Acc.held, if_neg (by simpa using hc0)], hw.drop rfl⟩


theorem vstep {rs : List (Int × Int)} {k : Nat} {z : Bool}
    (h : ((decide ((nth d0R rs k).1 < 0) || !inRange (nth d0R rs k).2 1 100000) || (decide ((0 : Int) < (k : Nat)) && decide ((nth d0R rs k).1 ≤ (nth d0R rs (k - 1)).1))) = false) :
    ((decide (0 ≤ (nth d0R rs k).1) && inRange (nth d0R rs k).2 1 100000 && (match prevR rs k with | none => true | some q => decide (q < (nth d0R rs k).1))) && z) = z := by
  simp only [Bool.or_eq_false_iff, decide_eq_false_iff_not, Bool.not_eq_false', Bool.and_eq_false_iff] at h
  obtain ⟨⟨h1, h2⟩, h3⟩ := h
  have e1 : decide (0 ≤ (nth d0R rs k).1) = true := by simp; omega
  rw [e1, h2]
  by_cases hk : k = 0
  · subst hk; simp [prevR]
  · rw [prevR_pos (by omega)]
    have : (nth d0R rs (k - 1)).1 < (nth d0R rs k).1 := by omega
    simp [this]
theorem vstop {rs : List (Int × Int)} {k : Nat} {z : Bool}
    (h : ((decide ((nth d0R rs k).1 < 0) || !inRange (nth d0R rs k).2 1 100000) || (decide ((0 : Int) < (k : Nat)) && decide ((nth d0R rs k).1 ≤ (nth d0R rs (k - 1)).1))) = true) :
    ((decide (0 ≤ (nth d0R rs k).1) && inRange (nth d0R rs k).2 1 100000 && (match prevR rs k with | none => true | some q => decide (q < (nth d0R rs k).1))) && z) = false := by
  simp only [Bool.or_eq_true, decide_eq_true_eq, Bool.not_eq_true', Bool.and_eq_true] at h
  rcases h with (h | h) | ⟨h, h'⟩
  · have e1 : decide (0 ≤ (nth d0R rs k).1) = false := by simp; omega
    rw [e1]; rfl
  · rw [h]; simp
  · rw [prevR_pos (by omega)]
    have : decide ((nth d0R rs (k - 1)).1 < (nth d0R rs k).1) = false := by simp; omega
    simp only [this]; simp

theorem sIsValidAccount_c (a : Acc) (A : Option Addr) (b o c : Nat) (w : World) (hs : Sl w A b o (flat encR a.res)) (hl : a.res.length ≤ 1048576) :
    Calls Try.prog 47 #[a.val A c] w fun e w' => e = .returned (.bool a.ok) ∧ HP w [] w' := by
  refine calls_entry [] _ Try.func47 rfl Try.ntmps47 (HP.refl w) (env1 rfl) ?_
  refine wc_seq ?_
  refine wc_region ?_
  refine wl_box (lk rfl) rfl fun b1 => ?_
  refine wl_v rfl (val_assign lkc) ?_
  refine wl_nil ?_
  refine px_then ?_
  refine wc_seq ?_
  refine wc_seq ?_
  refine wc_region ?_
  refine wl_v rfl (val_assign lkc) ?_
  refine wl_nil ?_
  refine px_then ?_
  refine wc_block ?_
  refine wc_trim (l' := [(1, _), (2, _), (3, _)]) ⟨rfl, rfl, rfl, trivial⟩ ?_
  refine wc_loop0 (X := Nat) (fun k => k ≤ a.res.length ∧ okRes (prevR a.res k) (a.res.drop k) = okRes none a.res) (fun k => [(3, (true, .int .i64 (k : Nat)))]) (fun k => a.res.length - k) 0 (⟨Nat.zero_le _, rfl⟩) ⟨rfl, rfl, rfl, rfl, trivial⟩ ?_
  rintro k ⟨hk, ht⟩
  refine wc_seq ?_
  refine wc_seq ?_
  refine wc_region ?_
  refine wl_v rfl (val_move (lk rfl)) ?_
  refine wl_v rfl (val_field fo_28_3 (lk rfl)) ?_
  refine wl_v rfl (val_load1 t1_26 (lk rfl) (cell_own (.head _) fun _ => rfl)) ?_
  refine wl_v rfl (val_len es_26 (lk rfl)) ?_
  refine wl_v rfl (val_lss (lk rfl) (lk rfl)) ?_
  refine wl_nil ?_
  refine px_then ?_
  refine wc_cond (lk rfl) (fun hc0 => ?_) (fun hc0 => ?_)
  · have hlt : k < a.res.length := by have := of_decide_eq_true hc0; omega
    refine wc_skip ?_
    refine px_then ?_
    refine wc_seq ?_
    refine wc_block ?_
    refine wc_seq ?_
    refine wc_region_q mo_ (by kernel_rfl) ?_
    refine wq_v rfl (val_field fo_28_3 (lk rfl)) ?_
    refine wq_v rfl (val_load1 t1_26 (lk rfl) (cell_own (.head _) fun _ => rfl)) ?_
    refine wq_v rfl (val_move (lk rfl)) ?_
    refine wq_v rfl (val_index es_26 (lk rfl) (lk rfl) (fun hG => hs.hd encR_len (by decide) (i := k) hlt) (fun hG => hlt)) ?_
    refine wq_v rfl (val_field fo_71_0 (lk rfl)) ?_
    refine wq_v rfl (val_load1 t1_3 (lk rfl) (cell_old rfl fun hG => hs.fld encR_len d0R (i := k) (f := 0) (hlt) (by decide) rfl)) ?_
    refine wq_v rfl (val_lss (lk rfl) lkc) ?_
    refine wq_v rfl (val_move (lk rfl)) ?_
    refine wq_val (gd_f rfl rfl rfl) rfl (val_field fo_28_3 (lk rfl)) ?_
    refine wq_val (gd_f rfl rfl rfl) rfl (val_load1 t1_26 (lkg rfl) (cell_own (.head _) fun _ => rfl)) ?_
    refine wq_val (gd_f rfl rfl rfl) rfl (val_move (lk rfl)) ?_
    refine wq_val (gd_f rfl rfl rfl) rfl (val_index es_26 (lkg rfl) (lkg rfl) (fun hG => hs.hd encR_len (by decide) (i := k) hlt) (fun hG => hlt)) ?_
    refine wq_val (gd_f rfl rfl rfl) rfl (val_field fo_71_1 (lkg rfl)) ?_
    refine wq_val (gd_f rfl rfl rfl) rfl (val_load1 t1_3 (lkg rfl) (cell_old rfl fun hG => hs.fld encR_len d0R (i := k) (f := 1) (hlt) (by decide) rfl)) ?_
    refine wq_call (gd_f rfl rfl rfl) rfl ci_61 (args3 (lkg rfl) lkc lkc) (fun hG w1 hw => l1In_c _ _ _ w1) ?_
    refine wq_val (gd_f rfl rfl rfl) rfl (val_not (lkg rfl)) ?_
    refine wq_v rfl (val_or (lk rfl) (lkg rfl)) ?_
    refine wq_v rfl (val_move (lk rfl)) ?_
    refine wq_val (gd_f rfl rfl rfl) rfl (val_move (lk rfl)) ?_
    refine wq_val (gd_f rfl rfl rfl) rfl (val_gtr (lkg rfl) lkc) ?_
    refine wq_val (gd_f rfl rfl rfl) rfl (val_move (lkg rfl)) ?_
    refine wq_val (gd_gt rfl rfl rfl) rfl (val_field fo_28_3 (lk rfl)) ?_
    refine wq_val (gd_gt rfl rfl rfl) rfl (val_load1 t1_26 (lkg rfl) (cell_own (.head _) fun _ => rfl)) ?_
    refine wq_val (gd_gt rfl rfl rfl) rfl (val_move (lk rfl)) ?_
    refine wq_val (gd_gt rfl rfl rfl) rfl (val_dec (lkg rfl) (fun hG => ⟨by simp at hG; omega, by omega⟩)) ?_
    refine wq_val (gd_gt rfl rfl rfl) rfl (val_index es_26 (lkg rfl) (lkg rfl) (fun hG => hs.hd encR_len (by decide) (i := k - 1) (by omega)) (fun hG => by omega)) ?_
    refine wq_val (gd_gt rfl rfl rfl) rfl (val_field fo_71_0 (lkg rfl)) ?_
    refine wq_val (gd_gt rfl rfl rfl) rfl (val_load1 t1_3 (lkg rfl) (cell_old rfl fun hG => hs.fld encR_len d0R (i := k - 1) (f := 0) (by omega) (by decide) rfl)) ?_
    refine wq_val (gd_gt rfl rfl rfl) rfl (val_field fo_28_3 (lk rfl)) ?_
    refine wq_val (gd_gt rfl rfl rfl) rfl (val_load1 t1_26 (lkg rfl) (cell_own (.head _) fun _ => rfl)) ?_
    refine wq_val (gd_gt rfl rfl rfl) rfl (val_move (lk rfl)) ?_
    refine wq_val (gd_gt rfl rfl rfl) rfl (val_index es_26 (lkg rfl) (lkg rfl) (fun hG => hs.hd encR_len (by decide) (i := k) hlt) (fun hG => hlt)) ?_
    refine wq_val (gd_gt rfl rfl rfl) rfl (val_field fo_71_0 (lkg rfl)) ?_
    refine wq_val (gd_gt rfl rfl rfl) rfl (val_load1 t1_3 (lkg rfl) (cell_old rfl fun hG => hs.fld encR_len d0R (i := k) (f := 0) (hlt) (by decide) rfl)) ?_
    refine wq_val (gd_gt rfl rfl rfl) rfl (val_geq (lkg rfl) (lkg rfl)) ?_
    refine wq_val (gd_f rfl rfl rfl) rfl (val_and (lkg rfl) (lkg rfl)) ?_
    refine wq_v rfl (val_or (lk rfl) (lkg rfl)) ?_
    refine wq_nil ?_
    refine px_then ?_
    refine wc_cond (lk rfl) (fun hc1 => ?_) (fun hc1 => ?_)
    · refine wc_seq ?_
      refine wc_region ?_
      refine wl_v rfl (val_assign lkc) ?_
      refine wl_nil ?_
      refine px_then ?_
      refine wc_ret ?_
      refine px_block_ret ?_
      refine px_then_ret ?_
      refine px_then_ret ?_
      refine px_block_ret ?_
      refine px_then_ret ?_
      refine fin1 rfl (res_tmp rfl) (fun w1 hw => ?_)
      exact ⟨by rw [Acc.ok, ← ht, okRes_step hlt, vstop hc1]; simp, hw.drop rfl⟩
    refine wc_skip ?_
    refine px_block ?_
    refine px_then ?_
    refine wc_region ?_
    refine wl_v rfl (val_move (lk rfl)) ?_
    refine wl_v rfl (val_inc (lk rfl) (by omega)) ?_
    refine wl_v rfl (val_assign (lk rfl)) ?_
    refine wl_nil ?_
    refine px_round0 (k + 1) (⟨by omega, by rw [← ht, okRes_step hlt]; exact (vstep hc1).symm⟩) (by omega) (⟨rfl, rfl, rfl, rfl, trivial⟩) (fun _ h => h.dropN 0 rfl)
  have hge : k = a.res.length := by have := of_decide_eq_false hc0; omega
  subst hge
  refine wc_exit ?_
  refine px_then_exit ?_
  refine px_then_exit ?_
  refine px_block_exit ?_
  refine px_then ?_
  refine wc_seq ?_
  refine wc_region_q mo_ (by kernel_rfl) ?_
  refine wq_v rfl (val_field fo_28_0 (lk rfl)) ?_
  refine wq_v rfl (val_load1 t1_3 (lk rfl) (cell_own (.head _) fun _ => rfl)) ?_
  refine wq_call gd_none rfl ci_61 (args3 (lk rfl) lkc lkc) (fun hG w1 hw => l1In_c _ _ _ w1) ?_
  refine wq_v rfl (val_move (lk rfl)) ?_
  refine wq_val (gd_t rfl rfl rfl) rfl (val_field fo_28_1 (lk rfl)) ?_
  refine wq_val (gd_t rfl rfl rfl) rfl (val_load1 t1_3 (lkg rfl) (cell_own (.head _) fun _ => rfl)) ?_
  refine wq_val (gd_t rfl rfl rfl) rfl (val_field fo_28_0 (lk rfl)) ?_
  refine wq_val (gd_t rfl rfl rfl) rfl (val_load1 t1_3 (lkg rfl) (cell_own (.head _) fun _ => rfl)) ?_
  refine wq_call (gd_t rfl rfl rfl) rfl ci_61 (args3 (lkg rfl) lkc (lkg rfl)) (fun hG w1 hw => l1In_c _ _ _ w1) ?_
  refine wq_v rfl (val_and (lk rfl) (lkg rfl)) ?_
  refine wq_v rfl (val_move (lk rfl)) ?_
  refine wq_val (gd_t rfl rfl rfl) rfl (val_field fo_28_2 (lk rfl)) ?_
  refine wq_val (gd_t rfl rfl rfl) rfl (val_load1 t1_3 (lkg rfl) (cell_own (.head _) fun _ => rfl)) ?_
  refine wq_val (gd_t rfl rfl rfl) rfl (val_field fo_28_0 (lk rfl)) ?_
  refine wq_val (gd_t rfl rfl rfl) rfl (val_load1 t1_3 (lkg rfl) (cell_own (.head _) fun _ => rfl)) ?_
  refine wq_call (gd_t rfl rfl rfl) rfl ci_61 (args3 (lkg rfl) lkc (lkg rfl)) (fun hG w1 hw => l1In_c _ _ _ w1) ?_
  refine wq_v rfl (val_and (lk rfl) (lkg rfl)) ?_
  refine wq_v rfl (val_move (lk rfl)) ?_
  refine wq_val (gd_t rfl rfl rfl) rfl (val_field fo_28_3 (lk rfl)) ?_
  refine wq_val (gd_t rfl rfl rfl) rfl (val_load1 t1_26 (lkg rfl) (cell_own (.head _) fun _ => rfl)) ?_
  refine wq_val (gd_t rfl rfl rfl) rfl (val_len es_26 (lkg rfl)) ?_
  refine wq_val (gd_t rfl rfl rfl) rfl (val_leq (lkg rfl) lkc) ?_
  refine wq_v rfl (val_and (lk rfl) (lkg rfl)) ?_
  refine wq_v rfl (val_move (lk rfl)) ?_
  refine wq_val (gd_t rfl rfl rfl) rfl (val_field fo_28_1 (lk rfl)) ?_
  refine wq_val (gd_t rfl rfl rfl) rfl (val_load1 t1_3 (lkg rfl) (cell_own (.head _) fun _ => rfl)) ?_
  refine wq_val (gd_t rfl rfl rfl) rfl (val_field fo_28_2 (lk rfl)) ?_
  refine wq_val (gd_t rfl rfl rfl) rfl (val_load1 t1_3 (lkg rfl) (cell_own (.head _) fun _ => rfl)) ?_
  refine wq_val (gd_t rfl rfl rfl) rfl (val_add (lkg rfl) (lkg rfl)) ?_
  refine wq_val (gd_t rfl rfl rfl) rfl (val_loadB (.head _) (lk rfl) ag_28) ?_
  refine wq_call (gd_t rfl rfl rfl) rfl ci_74 (args1 (lkg rfl)) (fun hG w1 hw => sTotalReserved_c a _ _ _ _ w1 (hs.hp hw rfl) hl) ?_
  refine wq_val (gd_t rfl rfl rfl) rfl (val_add (lkg rfl) (lkg rfl)) ?_
  refine wq_val (gd_t rfl rfl rfl) rfl (val_field fo_28_0 (lk rfl)) ?_
  refine wq_val (gd_t rfl rfl rfl) rfl (val_load1 t1_3 (lkg rfl) (cell_own (.head _) fun _ => rfl)) ?_
  refine wq_val (gd_t rfl rfl rfl) rfl (val_eql (lkg rfl) (lkg rfl)) ?_
  refine wq_v rfl (val_and (lk rfl) (lkg rfl)) ?_
  refine wq_v rfl (val_assign (lk rfl)) ?_
  refine wq_nil ?_
  refine px_then ?_
  refine wc_ret ?_
  refine fin1 rfl (res_tmp rfl) (fun w1 hw => ?_)
  have h1 : okRes none a.res = true := by rw [← ht]; simp [okRes]
  have e8 : decide ((a.res.length : Int) ≤ 8) = decide (a.res.length ≤ 8) := by rw [decide_eq_decide]; omega
  exact ⟨by rw [Acc.ok, h1, Acc.hdOk, Acc.sumOk, Bool.and_true, e8], hw.drop rfl⟩


theorem vstep2 {rs : List (Int × Int)} {k : Nat} {z : Bool} (h1 : (decide ((nth d0R rs k).1 < 0) || !inRange (nth d0R rs k).2 1 100000) = false)
    (h2 : (decide ((0 : Int) < (k : Nat)) && decide ((nth d0R rs k).1 ≤ (nth d0R rs (k - 1)).1)) = false) :
    ((decide (0 ≤ (nth d0R rs k).1) && inRange (nth d0R rs k).2 1 100000 && (match prevR rs k with | none => true | some q => decide (q < (nth d0R rs k).1))) && z) = z := vstep (by rw [h1, h2]; rfl)
theorem vstop2 {rs : List (Int × Int)} {k : Nat} {z : Bool} (h1 : (decide ((nth d0R rs k).1 < 0) || !inRange (nth d0R rs k).2 1 100000) = true) :
    ((decide (0 ≤ (nth d0R rs k).1) && inRange (nth d0R rs k).2 1 100000 && (match prevR rs k with | none => true | some q => decide (q < (nth d0R rs k).1))) && z) = false := vstop (by rw [h1]; rfl)
theorem vstop3 {rs : List (Int × Int)} {k : Nat} {z : Bool}
    (h2 : (decide ((0 : Int) < (k : Nat)) && decide ((nth d0R rs k).1 ≤ (nth d0R rs (k - 1)).1)) = true) :
    ((decide (0 ≤ (nth d0R rs k).1) && inRange (nth d0R rs k).2 1 100000 && (match prevR rs k with | none => true | some q => decide (q < (nth d0R rs k).1))) && z) = false := vstop (by rw [h2, Bool.or_true])

theorem IsValidAccount_c (a : Acc) (A : Option Addr) (b o c : Nat) (w : World) (hs : Sl w A b o (flat encR a.res)) (hl : a.res.length ≤ 1048576) :
    Calls Try.prog 42 #[a.val A c] w fun e w' => e = .returned (.bool a.ok) ∧ HP w [] w' := by
  refine calls_entry [] _ Try.func42 rfl Try.ntmps42 (HP.refl w) (env1 rfl) ?_
  refine wc_seq ?_
  refine wc_region ?_
  refine wl_box (lk rfl) rfl fun b1 => ?_
  refine wl_v rfl (val_assign lkc) ?_
  refine wl_nil ?_
  refine px_then ?_
  refine wc_seq ?_
  refine wc_seq ?_
  refine wc_region ?_
  refine wl_v rfl (val_field fo_28_0 (lk rfl)) ?_
  refine wl_v rfl (val_load1 t1_3 (lk rfl) (cell_own (.head _) fun _ => rfl)) ?_
  refine wl_call gd_none rfl ci_62 (args3 (lk rfl) lkc lkc) (fun hG w1 hw => InRange_c _ _ _ w1) ?_
  refine wl_v rfl (val_not (lk rfl)) ?_
  refine wl_v rfl (val_move (lk rfl)) ?_
  refine wl_val (gd_f rfl rfl rfl) rfl (val_field fo_28_1 (lk rfl)) ?_
  refine wl_val (gd_f rfl rfl rfl) rfl (val_load1 t1_3 (lkg rfl) (cell_own (.head _) fun _ => rfl)) ?_
  refine wl_val (gd_f rfl rfl rfl) rfl (val_field fo_28_0 (lk rfl)) ?_
  refine wl_val (gd_f rfl rfl rfl) rfl (val_load1 t1_3 (lkg rfl) (cell_own (.head _) fun _ => rfl)) ?_
  refine wl_call (gd_f rfl rfl rfl) rfl ci_62 (args3 (lkg rfl) lkc (lkg rfl)) (fun hG w1 hw => InRange_c _ _ _ w1) ?_
  refine wl_val (gd_f rfl rfl rfl) rfl (val_not (lkg rfl)) ?_
  refine wl_v rfl (val_or (lk rfl) (lkg rfl)) ?_
  refine wl_v rfl (val_move (lk rfl)) ?_
  refine wl_val (gd_f rfl rfl rfl) rfl (val_field fo_28_2 (lk rfl)) ?_
  refine wl_val (gd_f rfl rfl rfl) rfl (val_load1 t1_3 (lkg rfl) (cell_own (.head _) fun _ => rfl)) ?_
  refine wl_val (gd_f rfl rfl rfl) rfl (val_field fo_28_0 (lk rfl)) ?_
  refine wl_val (gd_f rfl rfl rfl) rfl (val_load1 t1_3 (lkg rfl) (cell_own (.head _) fun _ => rfl)) ?_
  refine wl_call (gd_f rfl rfl rfl) rfl ci_62 (args3 (lkg rfl) lkc (lkg rfl)) (fun hG w1 hw => InRange_c _ _ _ w1) ?_
  refine wl_val (gd_f rfl rfl rfl) rfl (val_not (lkg rfl)) ?_
  refine wl_v rfl (val_or (lk rfl) (lkg rfl)) ?_
  refine wl_nil ?_
  refine px_then ?_
  refine wc_cond (lk rfl) (fun hc0 => ?_) (fun hc0 => ?_)
  · refine wc_seq ?_
    refine wc_region ?_
    refine wl_v rfl (val_assign lkc) ?_
    refine wl_nil ?_
    refine px_then ?_
    refine wc_ret ?_
    refine px_then_ret ?_
    refine fin1 rfl (res_tmp rfl) (fun w1 hw => ?_)
    have h1 : a.hdOk = false := by simp only [Acc.hdOk]; revert hc0; cases inRange a.total 0 100000 <;> cases inRange a.avail 0 a.total <;> cases inRange a.spent 0 a.total <;> simp
    exact ⟨by rw [Acc.ok, h1]; rfl, hw.drop rfl⟩
  refine wc_skip ?_
  refine px_then ?_
  refine wc_seq ?_
  refine wc_seq ?_
  refine wc_region ?_
  refine wl_v rfl (val_field fo_28_3 (lk rfl)) ?_
  refine wl_v rfl (val_load1 t1_26 (lk rfl) (cell_own (.head _) fun _ => rfl)) ?_
  refine wl_v rfl (val_len es_26 (lk rfl)) ?_
  refine wl_v rfl (val_gtr (lk rfl) lkc) ?_
  refine wl_nil ?_
  refine px_then ?_
  refine wc_cond (lk rfl) (fun hc1 => ?_) (fun hc1 => ?_)
  · refine wc_seq ?_
    refine wc_region ?_
    refine wl_v rfl (val_assign lkc) ?_
    refine wl_nil ?_
    refine px_then ?_
    refine wc_ret ?_
    refine px_then_ret ?_
    refine fin1 rfl (res_tmp rfl) (fun w1 hw => ?_)
    have h1 : decide (a.res.length ≤ 8) = false := by have := of_decide_eq_true hc1; simp; omega
    exact ⟨by rw [Acc.ok, h1]; simp, hw.drop rfl⟩
  refine wc_skip ?_
  refine px_then ?_
  refine wc_seq ?_
  refine wc_seq ?_
  refine wc_region ?_
  refine wl_v rfl (val_field fo_28_3 (lk rfl)) ?_
  refine wl_v rfl (val_load1 t1_26 (lk rfl) (cell_own (.head _) fun _ => rfl)) ?_
  refine wl_v rfl (val_len es_26 (lk rfl)) ?_
  refine wl_v rfl (val_move lkc) ?_
  refine wl_nil ?_
  refine px_then ?_
  refine wc_block ?_
  refine wc_trim (l' := [(1, _), (2, _), (30, _), (31, _), (32, _)]) ⟨rfl, rfl, rfl, rfl, rfl, trivial⟩ ?_
  refine wc_loop0 (X := Nat) (fun k => k ≤ a.res.length ∧ okRes (prevR a.res k) (a.res.drop k) = okRes none a.res) (fun k => [(32, (true, .int .i64 (k : Nat)))]) (fun k => a.res.length - k) 0 (⟨Nat.zero_le _, rfl⟩) ⟨rfl, rfl, rfl, rfl, rfl, rfl, trivial⟩ ?_
  rintro k ⟨hk, ht⟩
  refine wc_seq ?_
  refine wc_region ?_
  refine wl_v rfl (val_lss (lk rfl) (lk rfl)) ?_
  refine wl_nil ?_
  refine px_then ?_
  refine wc_seq ?_
  refine wc_cond (lk rfl) (fun hc2 => ?_) (fun hc2 => ?_)
  · have hlt : k < a.res.length := by have := of_decide_eq_true hc2; omega
    refine wc_skip ?_
    refine px_then ?_
    refine wc_seq ?_
    refine wc_block ?_
    refine wc_seq ?_
    refine wc_region ?_
    refine wl_v rfl (val_move (lk rfl)) ?_
    refine wl_v rfl (val_index es_26 (lk rfl) (lk rfl) (fun hG => hs.hd encR_len (by decide) (i := k) hlt) (fun hG => hlt)) ?_
    refine wl_v rfl (val_loadN ag_71 (lk rfl) rfl (hs.rec_ rfl encR_len d0R (fun _ => hlt))) ?_
    refine wl_alloc zc_71 rfl fun b2 => ?_
    refine wl_v rfl (val_assign (lk rfl)) ?_
    refine wl_storeB 0 rfl (lk rfl) (lk rfl) ag_71 rfl rfl ?_
    refine wl_nil ?_
    refine px_then ?_
    refine wc_seq ?_
    refine wc_seq ?_
    refine wc_region ?_
    refine wl_v rfl (val_field fo_71_0 (lk rfl)) ?_
    refine wl_v rfl (val_load1 t1_3 (lk rfl) (cell_own (.head _) fun _ => rfl)) ?_
    refine wl_v rfl (val_lss (lk rfl) lkc) ?_
    refine wl_v rfl (val_move (lk rfl)) ?_
    refine wl_val (gd_f rfl rfl rfl) rfl (val_field fo_71_1 (lk rfl)) ?_
    refine wl_val (gd_f rfl rfl rfl) rfl (val_load1 t1_3 (lkg rfl) (cell_own (.head _) fun _ => rfl)) ?_
    refine wl_call (gd_f rfl rfl rfl) rfl ci_62 (args3 (lkg rfl) lkc lkc) (fun hG w1 hw => InRange_c _ _ _ w1) ?_
    refine wl_val (gd_f rfl rfl rfl) rfl (val_not (lkg rfl)) ?_
    refine wl_v rfl (val_or (lk rfl) (lkg rfl)) ?_
    refine wl_nil ?_
    refine px_then ?_
    refine wc_cond (lk rfl) (fun hc3 => ?_) (fun hc3 => ?_)
    · refine wc_seq ?_
      refine wc_region ?_
      refine wl_v rfl (val_assign lkc) ?_
      refine wl_nil ?_
      refine px_then ?_
      refine wc_ret ?_
      refine px_then_ret ?_
      refine px_block_ret ?_
      refine px_then_ret ?_
      refine px_then_ret ?_
      refine px_block_ret ?_
      refine px_then_ret ?_
      refine fin1 rfl (res_tmp rfl) (fun w1 hw => ?_)
      exact ⟨by rw [Acc.ok, ← ht, okRes_step hlt, vstop2 hc3]; simp, hw.drop rfl⟩
    refine wc_skip ?_
    refine px_then ?_
    refine wc_seq ?_
    refine wc_region_q mo_ (by kernel_rfl) ?_
    refine wq_v rfl (val_move (lk rfl)) ?_
    refine wq_v rfl (val_gtr (lk rfl) lkc) ?_
    refine wq_v rfl (val_move (lk rfl)) ?_
    refine wq_val (gd_t rfl rfl rfl) rfl (val_field fo_28_3 (lk rfl)) ?_
    refine wq_val (gd_t rfl rfl rfl) rfl (val_load1 t1_26 (lkg rfl) (cell_own (.tail _ (.head _)) fun _ => rfl)) ?_
    refine wq_val (gd_t rfl rfl rfl) rfl (val_move (lk rfl)) ?_
    refine wq_val (gd_t rfl rfl rfl) rfl (val_dec (lkg rfl) (fun hG => ⟨by simp at hG; omega, by omega⟩)) ?_
    refine wq_val (gd_t rfl rfl rfl) rfl (val_index es_26 (lkg rfl) (lkg rfl) (fun hG => hs.hd encR_len (by decide) (i := k - 1) (by omega)) (fun hG => by omega)) ?_
    refine wq_val (gd_t rfl rfl rfl) rfl (val_field fo_71_0 (lkg rfl)) ?_
    refine wq_val (gd_t rfl rfl rfl) rfl (val_load1 t1_3 (lkg rfl) (cell_old rfl fun hG => hs.fld encR_len d0R (i := k - 1) (f := 0) (by omega) (by decide) rfl)) ?_
    refine wq_val (gd_t rfl rfl rfl) rfl (val_field fo_71_0 (lk rfl)) ?_
    refine wq_val (gd_t rfl rfl rfl) rfl (val_load1 t1_3 (lkg rfl) (cell_own (.head _) fun _ => rfl)) ?_
    refine wq_val (gd_t rfl rfl rfl) rfl (val_geq (lkg rfl) (lkg rfl)) ?_
    refine wq_v rfl (val_and (lk rfl) (lkg rfl)) ?_
    refine wq_nil ?_
    refine px_then ?_
    refine wc_cond (lk rfl) (fun hc4 => ?_) (fun hc4 => ?_)
    · refine wc_seq ?_
      refine wc_region ?_
      refine wl_v rfl (val_assign lkc) ?_
      refine wl_nil ?_
      refine px_then ?_
      refine wc_ret ?_
      refine px_block_ret ?_
      refine px_then_ret ?_
      refine px_then_ret ?_
      refine px_block_ret ?_
      refine px_then_ret ?_
      refine fin1 rfl (res_tmp rfl) (fun w1 hw => ?_)
      exact ⟨by rw [Acc.ok, ← ht, okRes_step hlt, vstop3 hc4]; simp, hw.drop rfl⟩
    refine wc_skip ?_
    refine px_block ?_
    refine px_then ?_
    refine wc_region ?_
    refine wl_v rfl (val_inc (lk rfl) (by omega)) ?_
    refine wl_v rfl (val_move (lk rfl)) ?_
    refine wl_nil ?_
    refine px_round0 (k + 1) (⟨by omega, by rw [← ht, okRes_step hlt]; exact (vstep2 hc3 hc4).symm⟩) (by omega) (⟨rfl, rfl, rfl, rfl, rfl, rfl, trivial⟩) (fun _ h => h.dropN 1 rfl)
  have hge : k = a.res.length := by have := of_decide_eq_false hc2; omega
  subst hge
  refine wc_exit ?_
  refine px_then_exit ?_
  refine px_then_exit ?_
  refine px_block_exit ?_
  refine px_then ?_
  refine wc_seq ?_
  refine wc_region_q mo_ (by kernel_rfl) ?_
  refine wq_v rfl (val_field fo_28_1 (lk rfl)) ?_
  refine wq_v rfl (val_load1 t1_3 (lk rfl) (cell_own (.head _) fun _ => rfl)) ?_
  refine wq_v rfl (val_field fo_28_2 (lk rfl)) ?_
  refine wq_v rfl (val_load1 t1_3 (lk rfl) (cell_own (.head _) fun _ => rfl)) ?_
  refine wq_v rfl (val_add (lk rfl) (lk rfl)) ?_
  refine wq_v rfl (val_loadB (.head _) (lk rfl) ag_28) ?_
  refine wq_call gd_none rfl ci_70 (args1 (lk rfl)) (fun hG w1 hw => TotalReserved_c a _ _ _ _ w1 (hs.hp hw rfl) hl) ?_
  refine wq_v rfl (val_add (lk rfl) (lk rfl)) ?_
  refine wq_v rfl (val_field fo_28_0 (lk rfl)) ?_
  refine wq_v rfl (val_load1 t1_3 (lk rfl) (cell_own (.head _) fun _ => rfl)) ?_
  refine wq_v rfl (val_eql (lk rfl) (lk rfl)) ?_
  refine wq_v rfl (val_assign (lk rfl)) ?_
  refine wq_nil ?_
  refine px_then ?_
  refine wc_ret ?_
  refine fin1 rfl (res_tmp rfl) (fun w1 hw => ?_)
  have h1 : okRes none a.res = true := by rw [← ht]; simp [okRes]
  have e8 : decide (a.res.length ≤ 8) = true := by have := of_decide_eq_false hc1; simp; omega
  have e0 : a.hdOk = true := by simp only [Acc.hdOk]; revert hc0; cases inRange a.total 0 100000 <;> cases inRange a.avail 0 a.total <;> cases inRange a.spent 0 a.total <;> simp
  exact ⟨by rw [Acc.ok, h1, e8, e0, Acc.sumOk]; simp, hw.drop rfl⟩

theorem sMatches_c (a : Acc) (A : Option Addr) (b o c : Nat) (q : Quota) (w : World) (hs : Sl w A b o (flat encR a.res)) (hl : a.res.length ≤ 1048576) :
    Calls Try.prog 65 #[a.val A c, q.val] w fun e w' => e = .returned (.bool (a.ok && q.ok && (a.held q.sid == q.granted))) ∧ HP w [] w' := by
  refine calls_entry [] _ Try.func65 rfl Try.ntmps65 (HP.refl w) (env2 rfl) ?_
  refine wc_seq ?_
  refine wc_region ?_
  refine wl_box (lk rfl) rfl fun b1 => ?_
  refine wl_box (lk rfl) rfl fun b2 => ?_
  refine wl_v rfl (val_assign lkc) ?_
  refine wl_nil ?_
  refine px_then ?_
  refine wc_seq ?_
  refine wc_region_q mo_ (by kernel_rfl) ?_
  refine wq_v rfl (val_loadB (.tail _ (.head _)) (lk rfl) ag_28) ?_
  refine wq_call gd_none rfl ci_47 (args1 (lk rfl)) (fun hG w1 hw => sIsValidAccount_c a _ _ _ _ w1 (hs.hp hw rfl) hl) ?_
  refine wq_v rfl (val_move (lk rfl)) ?_
  refine wq_val (gd_t rfl rfl rfl) rfl (val_loadB (.head _) (lk rfl) ag_41) ?_
  refine wq_call (gd_t rfl rfl rfl) rfl ci_35 (args1 (lkg rfl)) (fun hG w1 hw => sIsValidQuota_c q w1) ?_
  refine wq_v rfl (val_and (lk rfl) (lkg rfl)) ?_
  refine wq_v rfl (val_move (lk rfl)) ?_
  refine wq_val (gd_t rfl rfl rfl) rfl (val_loadB (.tail _ (.head _)) (lk rfl) ag_28) ?_
  refine wq_val (gd_t rfl rfl rfl) rfl (val_field fo_41_0 (lk rfl)) ?_
  refine wq_val (gd_t rfl rfl rfl) rfl (val_load1 t1_3 (lkg rfl) (cell_own (.head _) fun _ => rfl)) ?_
  refine wq_call (gd_t rfl rfl rfl) rfl ci_45 (args2 (lkg rfl) (lkg rfl)) (fun hG w1 hw => sReservedFor_c a _ _ _ _ _ w1 (hs.hp hw rfl) hl) ?_
  refine wq_val (gd_t rfl rfl rfl) rfl (val_field fo_41_1 (lk rfl)) ?_
  refine wq_val (gd_t rfl rfl rfl) rfl (val_load1 t1_3 (lkg rfl) (cell_own (.head _) fun _ => rfl)) ?_
  refine wq_val (gd_t rfl rfl rfl) rfl (val_eql (lkg rfl) (lkg rfl)) ?_
  refine wq_v rfl (val_and (lk rfl) (lkg rfl)) ?_
  refine wq_v rfl (val_assign (lk rfl)) ?_
  refine wq_nil ?_
  refine px_then ?_
  refine wc_ret ?_
  refine fin1 rfl (res_tmp rfl) (fun w1 hw => ?_)
  exact ⟨rfl, hw.drop rfl⟩

theorem Matches_c (a : Acc) (A : Option Addr) (b o c : Nat) (q : Quota) (w : World) (hs : Sl w A b o (flat encR a.res)) (hl : a.res.length ≤ 1048576) :
    Calls Try.prog 41 #[a.val A c, q.val] w fun e w' => e = .returned (.bool (a.ok && q.ok && (a.held q.sid == q.granted))) ∧ HP w [] w' := by
  refine calls_entry [] _ Try.func41 rfl Try.ntmps41 (HP.refl w) (env2 rfl) ?_
  refine wc_seq ?_
  refine wc_region ?_
  refine wl_box (lk rfl) rfl fun b1 => ?_
  refine wl_box (lk rfl) rfl fun b2 => ?_
  refine wl_v rfl (val_assign lkc) ?_
  refine wl_nil ?_
  refine px_then ?_
  refine wc_seq ?_
  refine wc_region_q mo_ (by kernel_rfl) ?_
  refine wq_v rfl (val_loadB (.tail _ (.head _)) (lk rfl) ag_28) ?_
  refine wq_call gd_none rfl ci_42 (args1 (lk rfl)) (fun hG w1 hw => IsValidAccount_c a _ _ _ _ w1 (hs.hp hw rfl) hl) ?_
  refine wq_v rfl (val_move (lk rfl)) ?_
  refine wq_val (gd_t rfl rfl rfl) rfl (val_loadB (.head _) (lk rfl) ag_41) ?_
  refine wq_call (gd_t rfl rfl rfl) rfl ci_38 (args1 (lkg rfl)) (fun hG w1 hw => IsValidQuota_c q w1) ?_
  refine wq_v rfl (val_and (lk rfl) (lkg rfl)) ?_
  refine wq_v rfl (val_move (lk rfl)) ?_
  refine wq_val (gd_t rfl rfl rfl) rfl (val_loadB (.tail _ (.head _)) (lk rfl) ag_28) ?_
  refine wq_val (gd_t rfl rfl rfl) rfl (val_field fo_41_0 (lk rfl)) ?_
  refine wq_val (gd_t rfl rfl rfl) rfl (val_load1 t1_3 (lkg rfl) (cell_own (.head _) fun _ => rfl)) ?_
  refine wq_call (gd_t rfl rfl rfl) rfl ci_43 (args2 (lkg rfl) (lkg rfl)) (fun hG w1 hw => ReservedFor_c a _ _ _ _ _ w1 (hs.hp hw rfl) hl) ?_
  refine wq_val (gd_t rfl rfl rfl) rfl (val_field fo_41_1 (lk rfl)) ?_
  refine wq_val (gd_t rfl rfl rfl) rfl (val_load1 t1_3 (lkg rfl) (cell_own (.head _) fun _ => rfl)) ?_
  refine wq_val (gd_t rfl rfl rfl) rfl (val_eql (lkg rfl) (lkg rfl)) ?_
  refine wq_v rfl (val_and (lk rfl) (lkg rfl)) ?_
  refine wq_v rfl (val_assign (lk rfl)) ?_
  refine wq_nil ?_
  refine px_then ?_
  refine wc_ret ?_
  refine fin1 rfl (res_tmp rfl) (fun w1 hw => ?_)
  exact ⟨rfl, hw.drop rfl⟩

theorem szRes_c (A : Option Addr) (n c : Nat) (m : Int) (w : World) (h0 : 0 ≤ m ∧ m ≤ 1048576) (hn : n ≤ 9223372036854775807) :
    Calls Try.prog 50 #[.slice A n c, .int .i64 m] w fun e w' => e = .returned (.int .i64 (szN m n)) ∧ HP w [] w' := by
  refine calls_entry [] _ Try.func50 rfl Try.ntmps50 (HP.refl w) (env2 rfl) ?_
  refine wc_seq ?_
  refine wc_region ?_
  refine wl_v rfl (val_assign lkc) ?_
  refine wl_nil ?_
  refine px_then ?_
  refine wc_seq ?_
  refine wc_region ?_
  refine wl_v rfl (val_move (lk rfl)) ?_
  refine wl_v rfl (val_move (lk rfl)) ?_
  refine wl_v rfl (val_len es_22 (lk rfl)) ?_
  refine wl_v rfl ((val_sub (lk rfl) (lk rfl)).eq (by rw [wrap64_in' (by omega)])) ?_
  refine wl_v rfl (val_assign (lk rfl)) ?_
  refine wl_nil ?_
  refine px_then ?_
  refine wc_seq ?_
  refine wc_seq ?_
  refine wc_region ?_
  refine wl_v rfl (val_move (lk rfl)) ?_
  refine wl_v rfl (val_lss (lk rfl) lkc) ?_
  refine wl_nil ?_
  refine px_then ?_
  refine wc_cond (lk rfl) (fun hc0 => ?_) (fun hc0 => ?_)
  · refine wc_seq ?_
    refine wc_region ?_
    refine wl_v rfl (val_assign lkc) ?_
    refine wl_nil ?_
    refine px_then ?_
    refine wc_ret ?_
    refine px_then_ret ?_
    refine fin1 rfl (res_tmp rfl) (fun w1 hw => ?_)
    exact ⟨by rw [szN, if_pos (by simpa using hc0)], hw.drop rfl⟩
  refine wc_skip ?_
  refine px_then ?_
  refine wc_seq ?_
  refine wc_region ?_
  refine wl_v rfl (val_move (lk rfl)) ?_
  refine wl_v rfl (val_assign (lk rfl)) ?_
  refine wl_nil ?_
  refine px_then ?_
  refine wc_ret ?_
  refine fin1 rfl (res_tmp rfl) (fun w1 hw => ?_)
  exact ⟨by rw [szN, if_neg (by simpa using hc0)], hw.drop rfl⟩

theorem szAcc_c (a : Acc) (A : Option Addr) (c : Nat) (m : Int) (w : World) (h0 : 0 ≤ m ∧ m ≤ 1048576) (hn : a.res.length ≤ 9223372036854775807) :
    Calls Try.prog 13 #[a.val A c, .int .i64 m] w fun e w' => e = .returned (.int .i64 (szN m a.res.length)) ∧ HP w [] w' := by
  refine calls_entry [] _ Try.func13 rfl Try.ntmps13 (HP.refl w) (env2 rfl) ?_
  refine wc_seq ?_
  refine wc_region ?_
  refine wl_box (lk rfl) rfl fun b1 => ?_
  refine wl_v rfl (val_assign lkc) ?_
  refine wl_nil ?_
  refine px_then ?_
  refine wc_seq ?_
  refine wc_region ?_
  refine wl_v rfl (val_field fo_24_3 (lk rfl)) ?_
  refine wl_v rfl (val_load1 t1_22 (lk rfl) (cell_own (.head _) fun _ => rfl)) ?_
  refine wl_v rfl (val_move (lk rfl)) ?_
  refine wl_call gd_none rfl ci_50 (args2 (lk rfl) (lk rfl)) (fun hG w1 hw => szRes_c _ _ _ _ w1 h0 hn) ?_
  refine wl_v rfl (val_assign (lk rfl)) ?_
  refine wl_nil ?_
  refine px_then ?_
  refine wc_seq ?_
  refine wc_seq ?_
  refine wc_region ?_
  refine wl_v rfl (val_move (lk rfl)) ?_
  refine wl_v rfl (val_lss (lk rfl) lkc) ?_
  refine wl_nil ?_
  refine px_then ?_
  refine wc_cond (lk rfl) (fun hc0 => ?_) (fun hc0 => ?_)
  · refine wc_seq ?_
    refine wc_region ?_
    refine wl_v rfl (val_assign lkc) ?_
    refine wl_nil ?_
    refine px_then ?_
    refine wc_ret ?_
    refine px_then_ret ?_
    refine fin1 rfl (res_tmp rfl) (fun w1 hw => ?_)
    exact ⟨by rw [szN] at hc0 ⊢; split at hc0 <;> simp_all, hw.drop rfl⟩
  refine wc_skip ?_
  refine px_then ?_
  refine wc_seq ?_
  refine wc_region ?_
  refine wl_v rfl (val_move (lk rfl)) ?_
  refine wl_v rfl (val_assign (lk rfl)) ?_
  refine wl_nil ?_
  refine px_then ?_
  refine wc_ret ?_
  refine fin1 rfl (res_tmp rfl) (fun w1 hw => ?_)
  exact ⟨rfl, hw.drop rfl⟩

theorem toRes_c (r : Int × Int) (w : World) :
    Calls Try.prog 75 #[.agg (recV encR r).toArray] w fun e w' => e = .returned (.agg (recV encR r).toArray) ∧ HP w [] w' := by
  refine calls_entry [] _ Try.func75 rfl Try.ntmps75 (HP.refl w) (env1 rfl) ?_
  refine wc_seq ?_
  refine wc_region ?_
  refine wl_box (lk rfl) rfl fun b1 => ?_
  refine wl_alloc zc_71 rfl fun b2 => ?_
  refine wl_nil ?_
  refine px_then ?_
  refine wc_seq ?_
  refine wc_region ?_
  refine wl_alloc zc_71 rfl fun b3 => ?_
  refine wl_nil ?_
  refine px_then ?_
  refine wc_seq ?_
  refine wc_region ?_
  refine wl_v rfl (val_field fo_86_0 (lk rfl)) ?_
  refine wl_v rfl (val_load1 t1_3 (lk rfl) (cell_own (.tail _ (.tail _ (.head _))) fun _ => rfl)) ?_
  refine wl_v rfl (val_field fo_71_0 (lk rfl)) ?_
  refine wl_store1 0 rfl (lk rfl) (lk rfl) t1_3 rfl (rfl) ?_
  refine wl_nil ?_
  refine px_then ?_
  refine wc_seq ?_
  refine wc_region ?_
  refine wl_v rfl (val_field fo_86_1 (lk rfl)) ?_
  refine wl_v rfl (val_load1 t1_3 (lk rfl) (cell_own (.tail _ (.tail _ (.head _))) fun _ => rfl)) ?_
  refine wl_v rfl (val_field fo_71_1 (lk rfl)) ?_
  refine wl_store1 0 rfl (lk rfl) (lk rfl) t1_3 rfl (rfl) ?_
  refine wl_nil ?_
  refine px_then ?_
  refine wc_seq ?_
  refine wc_region ?_
  refine wl_v rfl (val_loadB (.head _) (lk rfl) ag_71) ?_
  refine wl_storeB 1 rfl (lk rfl) (lk rfl) ag_71 rfl rfl ?_
  refine wl_nil ?_
  refine px_then ?_
  refine wc_ret ?_
  refine fin1 rfl (res_cell rfl (.tail _ (.head _)) ag_71) (fun w1 hw => ?_)
  exact ⟨rfl, hw.drop rfl⟩

theorem eqRes_c (r s : Int × Int) (w : World) :
    Calls Try.prog 77 #[.agg (recV encR r).toArray, .agg (recV encR s).toArray] w fun e w' => e = .returned (.bool (eqR r s)) ∧ HP w [] w' := by
  refine calls_entry [] _ Try.func77 rfl Try.ntmps77 (HP.refl w) (env2 rfl) ?_
  refine wc_seq ?_
  refine wc_region ?_
  refine wl_box (lk rfl) rfl fun b1 => ?_
  refine wl_box (lk rfl) rfl fun b2 => ?_
  refine wl_v rfl (val_assign lkc) ?_
  refine wl_nil ?_
  refine px_then ?_
  refine wc_seq ?_
  refine wc_seq ?_
  refine wc_region ?_
  refine wl_v rfl (val_field fo_71_0 (lk rfl)) ?_
  refine wl_v rfl (val_load1 t1_3 (lk rfl) (cell_own (.tail _ (.head _)) fun _ => rfl)) ?_
  refine wl_v rfl (val_field fo_71_0 (lk rfl)) ?_
  refine wl_v rfl (val_load1 t1_3 (lk rfl) (cell_own (.head _) fun _ => rfl)) ?_
  refine wl_v rfl (val_neq (lk rfl) (lk rfl)) ?_
  refine wl_nil ?_
  refine px_then ?_
  refine wc_cond (lk rfl) (fun hc0 => ?_) (fun hc0 => ?_)
  · refine wc_seq ?_
    refine wc_region ?_
    refine wl_v rfl (val_assign lkc) ?_
    refine wl_nil ?_
    refine px_then ?_
    refine wc_ret ?_
    refine px_then_ret ?_
    refine fin1 rfl (res_tmp rfl) (fun w1 hw => ?_)
    exact ⟨by simp_all [eqR], hw.drop rfl⟩
  refine wc_skip ?_
  refine px_then ?_
  refine wc_seq ?_
  refine wc_seq ?_
  refine wc_region ?_
  refine wl_v rfl (val_field fo_71_1 (lk rfl)) ?_
  refine wl_v rfl (val_load1 t1_3 (lk rfl) (cell_own (.tail _ (.head _)) fun _ => rfl)) ?_
  refine wl_v rfl (val_field fo_71_1 (lk rfl)) ?_
  refine wl_v rfl (val_load1 t1_3 (lk rfl) (cell_own (.head _) fun _ => rfl)) ?_
  refine wl_v rfl (val_neq (lk rfl) (lk rfl)) ?_
  refine wl_nil ?_
  refine px_then ?_
  refine wc_cond (lk rfl) (fun hc1 => ?_) (fun hc1 => ?_)
  · refine wc_seq ?_
    refine wc_region ?_
    refine wl_v rfl (val_assign lkc) ?_
    refine wl_nil ?_
    refine px_then ?_
    refine wc_ret ?_
    refine px_then_ret ?_
    refine fin1 rfl (res_tmp rfl) (fun w1 hw => ?_)
    exact ⟨by simp_all [eqR], hw.drop rfl⟩
  refine wc_skip ?_
  refine px_then ?_
  refine wc_seq ?_
  refine wc_region ?_
  refine wl_v rfl (val_assign lkc) ?_
  refine wl_nil ?_
  refine px_then ?_
  refine wc_ret ?_
  refine fin1 rfl (res_tmp rfl) (fun w1 hw => ?_)
  exact ⟨by simp_all [eqR], hw.drop rfl⟩

end Go.Proofs.Ytdiojflamjppmaa
