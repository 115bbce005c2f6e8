/- Registrations: what the functions of the program and of the reference compute, walked. -/
import Derived.Test.YtmjpiihopgckpaaSxM
namespace Go.Proofs.Ytmjpiihopgckpaa
open Go.RowKit


def okP (p : Int × Int) : Bool := inRange p.1 0 3 && inRange p.2 0 99
def okT (p : Int × Int) : Bool := inRange p.1 0 3 && inRange p.2 0 9999
def findW (rs : List Reg) (p : Int × Int) : Int := findI (fun s => eq2 s.id p) 0 rs
def tempW (rs : List Reg) (net : Int) (t : Int × Int) : Int := findI (fun s => (s.net == net) && eq2 s.tmp t) 0 rs
theorem findW_lt {rs : List Reg} {p : Int × Int} (h : 0 ≤ findW rs p) : (findW rs p).toNat < rs.length ∧ findW rs p < rs.length := by
  have := (findI_lt (fun s : Reg => eq2 s.id p) 0 rs h).2
  rw [← findW] at this
  omega
theorem tempW_lt {rs : List Reg} {net : Int} {p : Int × Int} (h : 0 ≤ tempW rs net p) : (tempW rs net p).toNat < rs.length ∧ tempW rs net p < rs.length := by
  have := (findI_lt (fun s : Reg => (s.net == net) && eq2 s.tmp p) 0 rs h).2
  rw [← tempW] at this
  omega
def clash (s r : Reg) : Bool := eq2 s.id r.id || ((s.net == r.net) && eq2 s.tmp r.tmp)
def okW (r : Reg) : Bool := ((okP r.id && inRange r.net 0 3) && inRange r.area 0 2) && okT r.tmp
def okWAt (rs : List Reg) (k : Nat) : Bool := okW (nth d0W rs k) && !(rs.take k).any (fun s => clash s (nth d0W rs k))
def allAt (p : Nat → Bool) (n : Nat) : Bool := (List.range n).all p
theorem allAt_no {p : Nat → Bool} {n k : Nat} (h : k < n) (hp : p k = false) : allAt p n = false := by
  rw [allAt, List.all_eq_false]
  exact ⟨k, by simpa using h, by simp [hp]⟩
theorem allAt_yes {p : Nat → Bool} {n : Nat} (h : ∀ i, i < n → p i = true) : allAt p n = true := List.all_eq_true.2 fun i hi => h i (by simpa using hi)
def okRegs (rs : List Reg) : Bool := decide (rs.length ≤ 8) && allAt (okWAt rs) rs.length
theorem findI_any {α : Type} (p : α → Bool) : ∀ (i : Nat) (xs : List α), decide (0 ≤ findI p i xs) = xs.any p
  | _, [] => by simp [findI]
  | i, x :: xs => by
    unfold findI
    split
    · rename_i h; (simp [h] <;> omega)
    · rename_i h
      rw [findI_any p (i + 1) xs]
      simp [h]
theorem any_or {α : Type} (p q : α → Bool) : ∀ xs : List α, xs.any (fun x => p x || q x) = (xs.any p || xs.any q)
  | [] => rfl
  | x :: xs => by simp only [List.any_cons, any_or p q xs]; cases p x <;> cases q x <;> simp
theorem clash_any (rs : List Reg) (r : Reg) : rs.any (fun s => clash s r) = (decide (0 ≤ findW rs r.id) || decide (0 ≤ tempW rs r.net r.tmp)) := by
  rw [findW, findI_any, tempW, findI_any, ← any_or]
  rfl
theorem okWAt_eq (rs : List Reg) (k : Nat) : okWAt rs k = !(((((!okP (nth d0W rs k).id || decide (0 ≤ findW (rs.take k) (nth d0W rs k).id)) || !inRange (nth d0W rs k).net 0 3) || !inRange (nth d0W rs k).area 0 2) || !okT (nth d0W rs k).tmp) || decide (0 ≤ tempW (rs.take k) (nth d0W rs k).net (nth d0W rs k).tmp)) := by
  rw [okWAt, okW, clash_any]
  cases okP (nth d0W rs k).id <;> cases inRange (nth d0W rs k).net 0 3 <;> cases inRange (nth d0W rs k).area 0 2 <;> cases okT (nth d0W rs k).tmp <;> simp
def mayW (rs : List Reg) (a : Int) (p : Int × Int) : Bool := (a == p.1) || (decide (0 ≤ findW rs p) && ((nth d0W rs (findW rs p).toNat).net == a))
def locW (rs : List Reg) (a : Int) (p : Int × Int) : Bool := decide (0 ≤ findW rs p) && mayW rs a p
def areaW (rs : List Reg) (a : Int) (p : Int × Int) : Int := if locW rs a p then (nth d0W rs (findW rs p).toNat).area else -1
def resW (rs : List Reg) (net : Int) (t : Int × Int) : Int × Int := if tempW rs net t < 0 then (0, 0) else (nth d0W rs (tempW rs net t).toNat).id
def isW (rs : List Reg) (net : Int) (t : Int × Int) : Bool := decide (0 ≤ tempW rs net t)
def cutW (rs : List Reg) (k : Nat) : List Reg := rs.take k ++ rs.drop (k + 1)
def goneW (rs : List Reg) (p : Int × Int) (net : Int) : Bool := decide (findW rs p < 0) || ((nth d0W rs (findW rs p).toNat).net != net)
def dereg (rs : List Reg) (p : Int × Int) (net : Int) : List Reg := if goneW rs p net then rs else cutW rs (findW rs p).toNat
theorem dereg_len (rs : List Reg) (p : Int × Int) (net : Int) : (dereg rs p net).length ≤ rs.length := by
  unfold dereg cutW
  split
  · exact Nat.le_refl _
  · simp; omega

theorem sokP_c (p : Int × Int) (w : World) :
    Calls Try.prog 41 #[.agg (recV enc2 p).toArray] w fun e w' => e = .returned (.bool (okP p)) ∧ HP w [] w' := by
  refine calls_entry [] _ Try.func41 rfl Try.ntmps41 (HP.refl w) (env1 rfl) ?_
  refine wc_seq ?_
  refine wc_region ?_
  refine wl_box (lk rfl) rfl fun b1 => ?_
  refine wl_v rfl (val_assign lkc) ?_
  refine wl_nil ?_
  refine px_then ?_
  refine wc_seq ?_
  refine wc_region ?_
  refine wl_v rfl (val_field fo_29_0 (lk rfl)) ?_
  refine wl_v rfl (val_load1 t1_3 (lk rfl) (cell_own (.head _) fun _ => rfl)) ?_
  refine wl_call gd_none rfl ci_42 (args3 (lk rfl) lkc lkc) (fun hG w1 hw => l1In_c _ _ _ w1) ?_
  refine wl_v rfl (val_move (lk rfl)) ?_
  refine wl_val (gd_t rfl rfl rfl) rfl (val_field fo_29_1 (lk rfl)) ?_
  refine wl_val (gd_t rfl rfl rfl) rfl (val_load1 t1_3 (lkg rfl) (cell_own (.head _) fun _ => rfl)) ?_
  refine wl_call (gd_t rfl rfl rfl) rfl ci_42 (args3 (lkg rfl) lkc lkc) (fun hG w1 hw => l1In_c _ _ _ w1) ?_
  refine wl_v rfl (val_and (lk rfl) (lkg rfl)) ?_
  refine wl_v rfl (val_assign (lk rfl)) ?_
  refine wl_nil ?_
  refine px_then ?_
  refine wc_ret ?_
  refine fin1 rfl (res_tmp rfl) (fun w1 hw => ?_)
  exact ⟨rfl, hw.drop rfl⟩

theorem sokT_c (p : Int × Int) (w : World) :
    Calls Try.prog 43 #[.agg (recV enc2 p).toArray] w fun e w' => e = .returned (.bool (okT p)) ∧ HP w [] w' := by
  refine calls_entry [] _ Try.func43 rfl Try.ntmps43 (HP.refl w) (env1 rfl) ?_
  refine wc_seq ?_
  refine wc_region ?_
  refine wl_box (lk rfl) rfl fun b1 => ?_
  refine wl_v rfl (val_assign lkc) ?_
  refine wl_nil ?_
  refine px_then ?_
  refine wc_seq ?_
  refine wc_region ?_
  refine wl_v rfl (val_field fo_37_0 (lk rfl)) ?_
  refine wl_v rfl (val_load1 t1_3 (lk rfl) (cell_own (.head _) fun _ => rfl)) ?_
  refine wl_call gd_none rfl ci_42 (args3 (lk rfl) lkc lkc) (fun hG w1 hw => l1In_c _ _ _ w1) ?_
  refine wl_v rfl (val_move (lk rfl)) ?_
  refine wl_val (gd_t rfl rfl rfl) rfl (val_field fo_37_1 (lk rfl)) ?_
  refine wl_val (gd_t rfl rfl rfl) rfl (val_load1 t1_3 (lkg rfl) (cell_own (.head _) fun _ => rfl)) ?_
  refine wl_call (gd_t rfl rfl rfl) rfl ci_42 (args3 (lkg rfl) lkc lkc) (fun hG w1 hw => l1In_c _ _ _ w1) ?_
  refine wl_v rfl (val_and (lk rfl) (lkg rfl)) ?_
  refine wl_v rfl (val_assign (lk rfl)) ?_
  refine wl_nil ?_
  refine px_then ?_
  refine wc_ret ?_
  refine fin1 rfl (res_tmp rfl) (fun w1 hw => ?_)
  exact ⟨rfl, hw.drop rfl⟩

theorem okP_c (p : Int × Int) (w : World) :
    Calls Try.prog 44 #[.agg (recV enc2 p).toArray] w fun e w' => e = .returned (.bool (okP p)) ∧ HP w [] w' := by
  refine calls_entry [] _ Try.func44 rfl Try.ntmps44 (HP.refl w) (env1 rfl) ?_
  refine wc_seq ?_
  refine wc_region ?_
  refine wl_box (lk rfl) rfl fun b1 => ?_
  refine wl_v rfl (val_assign lkc) ?_
  refine wl_nil ?_
  refine px_then ?_
  refine wc_seq ?_
  refine wc_region ?_
  refine wl_v rfl (val_field fo_29_0 (lk rfl)) ?_
  refine wl_v rfl (val_load1 t1_3 (lk rfl) (cell_own (.head _) fun _ => rfl)) ?_
  refine wl_call gd_none rfl ci_45 (args3 (lk rfl) lkc lkc) (fun hG w1 hw => InRange_c _ _ _ w1) ?_
  refine wl_v rfl (val_move (lk rfl)) ?_
  refine wl_val (gd_t rfl rfl rfl) rfl (val_field fo_29_1 (lk rfl)) ?_
  refine wl_val (gd_t rfl rfl rfl) rfl (val_load1 t1_3 (lkg rfl) (cell_own (.head _) fun _ => rfl)) ?_
  refine wl_call (gd_t rfl rfl rfl) rfl ci_45 (args3 (lkg rfl) lkc lkc) (fun hG w1 hw => InRange_c _ _ _ w1) ?_
  refine wl_v rfl (val_and (lk rfl) (lkg rfl)) ?_
  refine wl_v rfl (val_assign (lk rfl)) ?_
  refine wl_nil ?_
  refine px_then ?_
  refine wc_ret ?_
  refine fin1 rfl (res_tmp rfl) (fun w1 hw => ?_)
  exact ⟨rfl, hw.drop rfl⟩

theorem okT_c (p : Int × Int) (w : World) :
    Calls Try.prog 46 #[.agg (recV enc2 p).toArray] w fun e w' => e = .returned (.bool (okT p)) ∧ HP w [] w' := by
  refine calls_entry [] _ Try.func46 rfl Try.ntmps46 (HP.refl w) (env1 rfl) ?_
  refine wc_seq ?_
  refine wc_region ?_
  refine wl_box (lk rfl) rfl fun b1 => ?_
  refine wl_v rfl (val_assign lkc) ?_
  refine wl_nil ?_
  refine px_then ?_
  refine wc_seq ?_
  refine wc_region ?_
  refine wl_v rfl (val_field fo_37_0 (lk rfl)) ?_
  refine wl_v rfl (val_load1 t1_3 (lk rfl) (cell_own (.head _) fun _ => rfl)) ?_
  refine wl_call gd_none rfl ci_45 (args3 (lk rfl) lkc lkc) (fun hG w1 hw => InRange_c _ _ _ w1) ?_
  refine wl_v rfl (val_move (lk rfl)) ?_
  refine wl_val (gd_t rfl rfl rfl) rfl (val_field fo_37_1 (lk rfl)) ?_
  refine wl_val (gd_t rfl rfl rfl) rfl (val_load1 t1_3 (lkg rfl) (cell_own (.head _) fun _ => rfl)) ?_
  refine wl_call (gd_t rfl rfl rfl) rfl ci_45 (args3 (lkg rfl) lkc lkc) (fun hG w1 hw => InRange_c _ _ _ w1) ?_
  refine wl_v rfl (val_and (lk rfl) (lkg rfl)) ?_
  refine wl_v rfl (val_assign (lk rfl)) ?_
  refine wl_nil ?_
  refine px_then ?_
  refine wc_ret ?_
  refine fin1 rfl (res_tmp rfl) (fun w1 hw => ?_)
  exact ⟨rfl, hw.drop rfl⟩

theorem sFindW_c (rs : List Reg) (A : Option Addr) (b o c : Nat) (p : Int × Int) (w : World) (hs : Sl w A b o (flat encW rs)) (hl : rs.length ≤ 1048576) :
    Calls Try.prog 13 #[.slice A rs.length c, .agg (recV enc2 p).toArray] w fun e w' => e = .returned (.int .i64 (findW rs p)) ∧ HP w [] w' := by
  refine calls_entry [] _ Try.func13 rfl Try.ntmps13 (HP.refl w) (env2 rfl) ?_
  refine wc_seq ?_
  refine wc_region ?_
  refine wl_box (lk rfl) rfl fun b1 => ?_
  refine wl_v rfl (val_assign lkc) ?_
  refine wl_nil ?_
  refine px_then ?_
  refine wc_seq ?_
  refine wc_seq ?_
  refine wc_region ?_
  refine wl_v rfl (val_assign lkc) ?_
  refine wl_nil ?_
  refine px_then ?_
  refine wc_block ?_
  refine wc_trim (l' := [(0, _), (3, _), (4, _), (5, _)]) ⟨rfl, rfl, rfl, rfl, trivial⟩ ?_
  refine wc_loop0 (X := Nat) (fun k => k ≤ rs.length ∧ findI (fun s => eq2 s.id p) k (rs.drop k) = findI (fun s => eq2 s.id p) 0 rs) (fun k => [(5, (true, .int .i64 (k : Nat)))]) (fun k => rs.length - k) 0 (⟨Nat.zero_le _, rfl⟩) ⟨rfl, rfl, rfl, rfl, rfl, trivial⟩ ?_
  rintro k ⟨hk, ht⟩
  refine wc_seq ?_
  refine wc_seq ?_
  refine wc_region ?_
  refine wl_v rfl (val_move (lk rfl)) ?_
  refine wl_v rfl (val_move (lk rfl)) ?_
  refine wl_v rfl (val_len es_27 (lk rfl)) ?_
  refine wl_v rfl (val_lss (lk rfl) (lk rfl)) ?_
  refine wl_nil ?_
  refine px_then ?_
  refine wc_cond (lk rfl) (fun hc0 => ?_) (fun hc0 => ?_)
  · have hlt : k < rs.length := by have := of_decide_eq_true hc0; omega
    refine wc_skip ?_
    refine px_then ?_
    refine wc_seq ?_
    refine wc_block ?_
    refine wc_seq ?_
    refine wc_region_q mo_ (by kernel_rfl) ?_
    refine wq_v rfl (val_move (lk rfl)) ?_
    refine wq_v rfl (val_move (lk rfl)) ?_
    refine wq_v rfl (val_index es_27 (lk rfl) (lk rfl) (fun hG => hs.hd encW_len (by decide) (i := k) (by first | omega | (have h9 := of_decide_eq_true hG; omega) | (simp at hG; omega))) (fun hG => by first | omega | (have h9 := of_decide_eq_true hG; omega) | (simp at hG; omega))) ?_
    refine wq_v rfl (val_field fo_55_0 (lk rfl)) ?_
    refine wq_v rfl (val_loadN (vs := ((recV encW (nth d0W rs k)).drop 0).take 2) ag_29 (lk rfl) rfl (hs.recP rfl encW_len d0W (fun hG => by first | omega | (have h9 := of_decide_eq_true hG; omega) | (simp at hG; omega)))) ?_
    refine wq_v rfl (val_loadB (.head _) (lk rfl) ag_29) ?_
    refine wq_v rfl (val_eqlK (ns := enc2 (nth d0W rs k).id) (ms := enc2 p) eqk_29 ist_29 egt_29 (lk rfl) (lk rfl) rfl rfl) ?_
    refine wq_nil ?_
    refine px_then ?_
    refine wc_cond (lk rfl) (fun hc1 => ?_) (fun hc1 => ?_)
    · refine wc_seq ?_
      refine wc_region ?_
      refine wl_v rfl (val_move (lk rfl)) ?_
      refine wl_v rfl (val_assign (lk rfl)) ?_
      refine wl_nil ?_
      refine px_then ?_
      refine wc_ret ?_
      refine px_block_ret ?_
      refine px_then_ret ?_
      refine px_then_ret ?_
      refine px_block_ret ?_
      refine px_then_ret ?_
      refine fin1 rfl (res_tmp rfl) (fun w1 hw => ?_)
      have h9 : (enc2 (nth d0W rs k).id == enc2 p) = true := hc1
      rw [enc2_eq] at h9
      exact ⟨by rw [findW, ← ht, drop_nth (d := d0W) hlt, findI, if_pos h9], hw.drop rfl⟩
    have hnf : ¬ eq2 (nth d0W rs k).id p = true := by
      have h9 : (enc2 (nth d0W rs k).id == enc2 p) = false := hc1
      rw [enc2_eq] at h9; simpa using h9
    refine wc_skip ?_
    refine px_block ?_
    refine px_then ?_
    refine wc_region ?_
    refine wl_v rfl (val_move (lk rfl)) ?_
    refine wl_v rfl (val_inc (lk rfl) (by omega)) ?_
    refine wl_v rfl (val_assign (lk rfl)) ?_
    refine wl_nil ?_
    refine px_round0 (k + 1) (⟨by omega, by rw [← ht, drop_nth (d := d0W) hlt, findI, if_neg (hnf)]⟩) (by omega) (⟨rfl, rfl, rfl, rfl, rfl, trivial⟩) (fun _ h => h.dropN 0 rfl)
  have hge : k = rs.length := by have := of_decide_eq_false hc0; omega
  subst hge
  refine wc_exit ?_
  refine px_then_exit ?_
  refine px_then_exit ?_
  refine px_block_exit ?_
  refine px_then ?_
  refine wc_seq ?_
  refine wc_region ?_
  refine wl_v rfl (val_assign lkc) ?_
  refine wl_nil ?_
  refine px_then ?_
  refine wc_ret ?_
  refine fin1 rfl (res_tmp rfl) (fun w1 hw => ?_)
  exact ⟨by rw [findW, ← ht]; simp [findI], hw.drop rfl⟩

theorem FindW_c (rs : List Reg) (A : Option Addr) (b o c : Nat) (p : Int × Int) (w : World) (hs : Sl w A b o (flat encW rs)) (hl : rs.length ≤ 1048576) :
    Calls Try.prog 16 #[.slice A rs.length c, .agg (recV enc2 p).toArray] w fun e w' => e = .returned (.int .i64 (findW rs p)) ∧ HP w [] w' := by
  refine calls_entry [] _ Try.func16 rfl Try.ntmps16 (HP.refl w) (env2 rfl) ?_
  refine wc_seq ?_
  refine wc_region ?_
  refine wl_box (lk rfl) rfl fun b1 => ?_
  refine wl_v rfl (val_assign lkc) ?_
  refine wl_nil ?_
  refine px_then ?_
  refine wc_seq ?_
  refine wc_seq ?_
  refine wc_region ?_
  refine wl_v rfl (val_move (lk rfl)) ?_
  refine wl_v rfl (val_len es_27 (lk rfl)) ?_
  refine wl_v rfl (val_move lkc) ?_
  refine wl_nil ?_
  refine px_then ?_
  refine wc_block ?_
  refine wc_trim (l' := [(3, _), (4, _), (7, _), (8, _), (9, _)]) ⟨rfl, rfl, rfl, rfl, rfl, trivial⟩ ?_
  refine wc_loop0 (X := Nat) (fun k => k ≤ rs.length ∧ findI (fun s => eq2 s.id p) k (rs.drop k) = findI (fun s => eq2 s.id p) 0 rs) (fun k => [(9, (true, .int .i64 (k : Nat)))]) (fun k => rs.length - k) 0 (⟨Nat.zero_le _, rfl⟩) ⟨rfl, rfl, rfl, rfl, rfl, rfl, trivial⟩ ?_
  rintro k ⟨hk, ht⟩
  refine wc_seq ?_
  refine wc_region ?_
  refine wl_v rfl (val_lss (lk rfl) (lk rfl)) ?_
  refine wl_nil ?_
  refine px_then ?_
  refine wc_seq ?_
  refine wc_cond (lk rfl) (fun hc0 => ?_) (fun hc0 => ?_)
  · have hlt : k < rs.length := by have := of_decide_eq_true hc0; omega
    refine wc_skip ?_
    refine px_then ?_
    refine wc_seq ?_
    refine wc_block ?_
    refine wc_seq ?_
    refine wc_region ?_
    refine wl_v rfl (val_move (lk rfl)) ?_
    refine wl_v rfl (val_index es_27 (lk rfl) (lk rfl) (fun hG => hs.hd encW_len (by decide) (i := k) (by first | omega | (have h9 := of_decide_eq_true hG; omega) | (simp at hG; omega))) (fun hG => by first | omega | (have h9 := of_decide_eq_true hG; omega) | (simp at hG; omega))) ?_
    refine wl_v rfl (val_loadN ag_55 (lk rfl) rfl (hs.rec_ rfl encW_len d0W (fun hG => by first | omega | (have h9 := of_decide_eq_true hG; omega) | (simp at hG; omega)))) ?_
    refine wl_alloc zc_55 rfl fun b2 => ?_
    refine wl_v rfl (val_assign (lk rfl)) ?_
    refine wl_storeB 0 rfl (lk rfl) (lk rfl) ag_55 rfl rfl ?_
    refine wl_nil ?_
    refine px_then ?_
    refine wc_seq ?_
    refine wc_region ?_
    refine wl_v rfl (val_field fo_55_0 (lk rfl)) ?_
    refine wl_v rfl (val_loadP (.head _) (lk rfl) ag_29 rfl) ?_
    refine wl_v rfl (val_loadB (.tail _ (.head _)) (lk rfl) ag_29) ?_
    refine wl_v rfl (val_eqlK (ns := enc2 (nth d0W rs k).id) (ms := enc2 p) eqk_29 ist_29 egt_29 (lk rfl) (lk rfl) rfl rfl) ?_
    refine wl_nil ?_
    refine px_then ?_
    refine wc_cond (lk rfl) (fun hc1 => ?_) (fun hc1 => ?_)
    · refine wc_seq ?_
      refine wc_region ?_
      refine wl_v rfl (val_move (lk rfl)) ?_
      refine wl_v rfl (val_assign (lk rfl)) ?_
      refine wl_nil ?_
      refine px_then ?_
      refine wc_ret ?_
      refine px_block_ret ?_
      refine px_then_ret ?_
      refine px_then_ret ?_
      refine px_block_ret ?_
      refine px_then_ret ?_
      refine fin1 rfl (res_tmp rfl) (fun w1 hw => ?_)
      have h9 : (enc2 (nth d0W rs k).id == enc2 p) = true := hc1
      rw [enc2_eq] at h9
      exact ⟨by rw [findW, ← ht, drop_nth (d := d0W) hlt, findI, if_pos h9], hw.drop rfl⟩
    have hnf : ¬ eq2 (nth d0W rs k).id p = true := by
      have h9 : (enc2 (nth d0W rs k).id == enc2 p) = false := hc1
      rw [enc2_eq] at h9; simpa using h9
    refine wc_skip ?_
    refine px_block ?_
    refine px_then ?_
    refine wc_region ?_
    refine wl_v rfl (val_inc (lk rfl) (by omega)) ?_
    refine wl_v rfl (val_move (lk rfl)) ?_
    refine wl_nil ?_
    refine px_round0 (k + 1) (⟨by omega, by rw [← ht, drop_nth (d := d0W) hlt, findI, if_neg (hnf)]⟩) (by omega) (⟨rfl, rfl, rfl, rfl, rfl, rfl, trivial⟩) (fun _ h => h.dropN 1 rfl)
  have hge : k = rs.length := by have := of_decide_eq_false hc0; omega
  subst hge
  refine wc_exit ?_
  refine px_then_exit ?_
  refine px_then_exit ?_
  refine px_block_exit ?_
  refine px_then ?_
  refine wc_seq ?_
  refine wc_region ?_
  refine wl_v rfl (val_assign lkc) ?_
  refine wl_nil ?_
  refine px_then ?_
  refine wc_ret ?_
  refine fin1 rfl (res_tmp rfl) (fun w1 hw => ?_)
  exact ⟨by rw [findW, ← ht]; simp [findI], hw.drop rfl⟩

theorem sTempW_c (rs : List Reg) (A : Option Addr) (b o c : Nat) (net : Int) (p : Int × Int) (w : World) (hs : Sl w A b o (flat encW rs)) (hl : rs.length ≤ 1048576) :
    Calls Try.prog 39 #[.slice A rs.length c, .int .i64 net, .agg (recV enc2 p).toArray] w fun e w' => e = .returned (.int .i64 (tempW rs net p)) ∧ HP w [] w' := by
  refine calls_entry [] _ Try.func39 rfl Try.ntmps39 (HP.refl w) (env3 rfl) ?_
  refine wc_seq ?_
  refine wc_region ?_
  refine wl_box (lk rfl) rfl fun b1 => ?_
  refine wl_v rfl (val_assign lkc) ?_
  refine wl_nil ?_
  refine px_then ?_
  refine wc_seq ?_
  refine wc_seq ?_
  refine wc_region ?_
  refine wl_v rfl (val_assign lkc) ?_
  refine wl_nil ?_
  refine px_then ?_
  refine wc_block ?_
  refine wc_trim (l' := [(0, _), (1, _), (5, _), (6, _), (7, _)]) ⟨rfl, rfl, rfl, rfl, rfl, trivial⟩ ?_
  refine wc_loop0 (X := Nat) (fun k => k ≤ rs.length ∧ findI (fun s => (s.net == net) && eq2 s.tmp p) k (rs.drop k) = findI (fun s => (s.net == net) && eq2 s.tmp p) 0 rs) (fun k => [(7, (true, .int .i64 (k : Nat)))]) (fun k => rs.length - k) 0 (⟨Nat.zero_le _, rfl⟩) ⟨rfl, rfl, rfl, rfl, rfl, rfl, trivial⟩ ?_
  rintro k ⟨hk, ht⟩
  refine wc_seq ?_
  refine wc_seq ?_
  refine wc_region ?_
  refine wl_v rfl (val_move (lk rfl)) ?_
  refine wl_v rfl (val_move (lk rfl)) ?_
  refine wl_v rfl (val_len es_27 (lk rfl)) ?_
  refine wl_v rfl (val_lss (lk rfl) (lk rfl)) ?_
  refine wl_nil ?_
  refine px_then ?_
  refine wc_cond (lk rfl) (fun hc0 => ?_) (fun hc0 => ?_)
  · have hlt : k < rs.length := by have := of_decide_eq_true hc0; omega
    refine wc_skip ?_
    refine px_then ?_
    refine wc_seq ?_
    refine wc_block ?_
    refine wc_seq ?_
    refine wc_region_q mo_ (by kernel_rfl) ?_
    refine wq_v rfl (val_move (lk rfl)) ?_
    refine wq_v rfl (val_move (lk rfl)) ?_
    refine wq_v rfl (val_index es_27 (lk rfl) (lk rfl) (fun hG => hs.hd encW_len (by decide) (i := k) (by first | omega | (have h9 := of_decide_eq_true hG; omega) | (simp at hG; omega))) (fun hG => by first | omega | (have h9 := of_decide_eq_true hG; omega) | (simp at hG; omega))) ?_
    refine wq_v rfl (val_field fo_55_1 (lk rfl)) ?_
    refine wq_v rfl (val_load1 t1_3 (lk rfl) (cell_old rfl fun hG => hs.fld encW_len d0W (i := k) (f := 2) (by first | omega | (have h9 := of_decide_eq_true hG; omega) | (simp at hG; omega)) (by decide) rfl)) ?_
    refine wq_v rfl (val_move (lk rfl)) ?_
    refine wq_v rfl (val_eql (lk rfl) (lk rfl)) ?_
    refine wq_v rfl (val_move (lk rfl)) ?_
    refine wq_val (gd_t rfl rfl rfl) rfl (val_move (lk rfl)) ?_
    refine wq_val (gd_t rfl rfl rfl) rfl (val_move (lk rfl)) ?_
    refine wq_val (gd_t rfl rfl rfl) rfl (val_index es_27 (lkg rfl) (lkg rfl) (fun hG => hs.hd encW_len (by decide) (i := k) (by first | omega | (have h9 := of_decide_eq_true hG; omega) | (simp at hG; omega))) (fun hG => by first | omega | (have h9 := of_decide_eq_true hG; omega) | (simp at hG; omega))) ?_
    refine wq_val (gd_t rfl rfl rfl) rfl (val_field fo_55_3 (lkg rfl)) ?_
    refine wq_val (gd_t rfl rfl rfl) rfl (val_loadN (vs := ((recV encW (nth d0W rs k)).drop 4).take 2) ag_37 (lkg rfl) rfl (hs.recP rfl encW_len d0W (fun hG => by first | omega | (have h9 := of_decide_eq_true hG; omega) | (simp at hG; omega)))) ?_
    refine wq_val (gd_t rfl rfl rfl) rfl (val_loadB (.head _) (lk rfl) ag_37) ?_
    refine wq_val (gd_t rfl rfl rfl) rfl (val_eqlK (ns := enc2 (nth d0W rs k).tmp) (ms := enc2 p) eqk_37 ist_37 egt_37 (lkg rfl) (lkg rfl) rfl rfl) ?_
    refine wq_v rfl (val_and (lk rfl) (lkg rfl)) ?_
    refine wq_nil ?_
    refine px_then ?_
    refine wc_cond (lk rfl) (fun hc1 => ?_) (fun hc1 => ?_)
    · have hyf : (((nth d0W rs k).net == net) && eq2 (nth d0W rs k).tmp p) = true := by
        have h9 : (((nth d0W rs k).net == net) && (enc2 (nth d0W rs k).tmp == enc2 p)) = true := hc1
        rwa [enc2_eq] at h9
      refine wc_seq ?_
      refine wc_region ?_
      refine wl_v rfl (val_move (lk rfl)) ?_
      refine wl_v rfl (val_assign (lk rfl)) ?_
      refine wl_nil ?_
      refine px_then ?_
      refine wc_ret ?_
      refine px_block_ret ?_
      refine px_then_ret ?_
      refine px_then_ret ?_
      refine px_block_ret ?_
      refine px_then_ret ?_
      refine fin1 rfl (res_tmp rfl) (fun w1 hw => ?_)
      exact ⟨by rw [tempW, ← ht, drop_nth (d := d0W) hlt, findI, if_pos hyf], hw.drop rfl⟩
    have hnf : ¬ (((nth d0W rs k).net == net) && eq2 (nth d0W rs k).tmp p) = true := by
      have h9 : (((nth d0W rs k).net == net) && (enc2 (nth d0W rs k).tmp == enc2 p)) = false := hc1
      rw [enc2_eq] at h9; simpa using h9
    refine wc_skip ?_
    refine px_block ?_
    refine px_then ?_
    refine wc_region ?_
    refine wl_v rfl (val_move (lk rfl)) ?_
    refine wl_v rfl (val_inc (lk rfl) (by omega)) ?_
    refine wl_v rfl (val_assign (lk rfl)) ?_
    refine wl_nil ?_
    refine px_round0 (k + 1) (⟨by omega, by rw [← ht, drop_nth (d := d0W) hlt, findI, if_neg (hnf)]⟩) (by omega) (⟨rfl, rfl, rfl, rfl, rfl, rfl, trivial⟩) (fun _ h => h.dropN 0 rfl)
  have hge : k = rs.length := by have := of_decide_eq_false hc0; omega
  subst hge
  refine wc_exit ?_
  refine px_then_exit ?_
  refine px_then_exit ?_
  refine px_block_exit ?_
  refine px_then ?_
  refine wc_seq ?_
  refine wc_region ?_
  refine wl_v rfl (val_assign lkc) ?_
  refine wl_nil ?_
  refine px_then ?_
  refine wc_ret ?_
  refine fin1 rfl (res_tmp rfl) (fun w1 hw => ?_)
  exact ⟨by rw [tempW, ← ht]; simp [findI], hw.drop rfl⟩

theorem sRes_c (rs : List Reg) (A : Option Addr) (b o c : Nat) (net : Int) (p : Int × Int) (w : World) (hs : Sl w A b o (flat encW rs)) (hl : rs.length ≤ 1048576) :
    Calls Try.prog 18 #[.slice A rs.length c, .int .i64 net, .agg (recV enc2 p).toArray] w fun e w' => e = .returned (.tuple #[.agg (recV enc2 (resW rs net p)).toArray, .bool (isW rs net p)]) ∧ HP w [] w' := by
  refine calls_entry [] _ Try.func18 rfl Try.ntmps18 (HP.refl w) (env3 rfl) ?_
  refine wc_seq ?_
  refine wc_region ?_
  refine wl_box (lk rfl) rfl fun b1 => ?_
  refine wl_alloc zc_29 rfl fun b2 => ?_
  refine wl_v rfl (val_assign lkc) ?_
  refine wl_nil ?_
  refine px_then ?_
  refine wc_seq ?_
  refine wc_region ?_
  refine wl_v rfl (val_move (lk rfl)) ?_
  refine wl_v rfl (val_move (lk rfl)) ?_
  refine wl_v rfl (val_loadB (.tail _ (.head _)) (lk rfl) ag_37) ?_
  refine wl_call gd_none rfl ci_39 (args3 (lk rfl) (lk rfl) (lk rfl)) (fun hG w1 hw => sTempW_c rs _ _ _ _ net p w1 (hs.hp hw rfl) hl) ?_
  refine wl_v rfl (val_assign (lk rfl)) ?_
  refine wl_nil ?_
  refine px_then ?_
  refine wc_seq ?_
  refine wc_seq ?_
  refine wc_region ?_
  refine wl_v rfl (val_move (lk rfl)) ?_
  refine wl_v rfl (val_lss (lk rfl) lkc) ?_
  refine wl_nil ?_
  refine px_then ?_
  refine wc_cond (lk rfl) (fun hc0 => ?_) (fun hc0 => ?_)
  · have h0 := of_decide_eq_true hc0
    refine wc_seq ?_
    refine wc_region ?_
    refine wl_v rfl (val_buildP parts0 bl_29_) ?_
    refine wl_storeB 0 rfl (lk rfl) (lk rfl) ag_29 rfl rfl ?_
    refine wl_v rfl (val_assign lkc) ?_
    refine wl_nil ?_
    refine px_then ?_
    refine wc_ret ?_
    refine px_then_ret ?_
    refine fin2 rfl (res_cell rfl (.head _) ag_29) (res_tmp rfl) (fun w1 hw => ?_)
    exact ⟨by rw [resW, if_pos h0, isW, decide_eq_false (by omega)]; rfl, hw.drop rfl⟩
  have h0 : 0 ≤ tempW rs net p := by have := of_decide_eq_false hc0; omega
  have hlt := tempW_lt h0
  refine wc_skip ?_
  refine px_then ?_
  refine wc_seq ?_
  refine wc_region ?_
  refine wl_v rfl (val_move (lk rfl)) ?_
  refine wl_v rfl (val_move (lk rfl)) ?_
  refine wl_v rfl (val_indexI es_27 (lk rfl) (lk rfl) (fun _ => hs.hd encW_len (by decide) (i := (tempW rs net p).toNat) hlt.1) (fun _ => ⟨h0, hlt.2⟩)) ?_
  refine wl_v rfl (val_field fo_55_0 (lk rfl)) ?_
  refine wl_v rfl (val_loadN (vs := ((recV encW (nth d0W rs (tempW rs net p).toNat)).drop 0).take 2) ag_29 (lk rfl) rfl (hs.recP rfl encW_len d0W (fun _ => hlt.1))) ?_
  refine wl_storeB 0 rfl (lk rfl) (lk rfl) ag_29 rfl rfl ?_
  refine wl_v rfl (val_assign lkc) ?_
  refine wl_nil ?_
  refine px_then ?_
  refine wc_ret ?_
  refine fin2 rfl (res_cell rfl (.head _) ag_29) (res_tmp rfl) (fun w1 hw => ?_)
  exact ⟨by rw [resW, if_neg (by omega), isW, decide_eq_true h0]; rfl, hw.drop rfl⟩

theorem Res_c (rs : List Reg) (A : Option Addr) (b o c : Nat) (net : Int) (p : Int × Int) (w : World) (hs : Sl w A b o (flat encW rs)) (hl : rs.length ≤ 1048576) :
    Calls Try.prog 20 #[.slice A rs.length c, .int .i64 net, .agg (recV enc2 p).toArray] w fun e w' => e = .returned (.tuple #[.agg (recV enc2 (resW rs net p)).toArray, .bool (isW rs net p)]) ∧ HP w [] w' := by
  refine calls_entry [] _ Try.func20 rfl Try.ntmps20 (HP.refl w) (env3 rfl) ?_
  refine wc_seq ?_
  refine wc_region ?_
  refine wl_box (lk rfl) rfl fun b1 => ?_
  refine wl_alloc zc_29 rfl fun b2 => ?_
  refine wl_v rfl (val_assign lkc) ?_
  refine wl_nil ?_
  refine px_then ?_
  refine wc_seq ?_
  refine wc_seq ?_
  refine wc_region ?_
  refine wl_v rfl (val_move (lk rfl)) ?_
  refine wl_v rfl (val_len es_27 (lk rfl)) ?_
  refine wl_v rfl (val_move lkc) ?_
  refine wl_nil ?_
  refine px_then ?_
  refine wc_block ?_
  refine wc_trim (l' := [(1, _), (5, _), (6, _), (7, _), (10, _), (11, _), (12, _)]) ⟨rfl, rfl, rfl, rfl, rfl, rfl, rfl, trivial⟩ ?_
  refine wc_loop0 (X := Nat) (fun k => k ≤ rs.length ∧ findI (fun s => (s.net == net) && eq2 s.tmp p) k (rs.drop k) = findI (fun s => (s.net == net) && eq2 s.tmp p) 0 rs) (fun k => [(12, (true, .int .i64 (k : Nat)))]) (fun k => rs.length - k) 0 (⟨Nat.zero_le _, rfl⟩) ⟨rfl, rfl, rfl, rfl, rfl, rfl, rfl, rfl, trivial⟩ ?_
  rintro k ⟨hk, ht⟩
  refine wc_seq ?_
  refine wc_region ?_
  refine wl_v rfl (val_lss (lk rfl) (lk rfl)) ?_
  refine wl_nil ?_
  refine px_then ?_
  refine wc_seq ?_
  refine wc_cond (lk rfl) (fun hc0 => ?_) (fun hc0 => ?_)
  · have hlt : k < rs.length := by have := of_decide_eq_true hc0; omega
    refine wc_skip ?_
    refine px_then ?_
    refine wc_seq ?_
    refine wc_block ?_
    refine wc_seq ?_
    refine wc_region ?_
    refine wl_v rfl (val_index es_27 (lk rfl) (lk rfl) (fun hG => hs.hd encW_len (by decide) (i := k) (by first | omega | (have h9 := of_decide_eq_true hG; omega) | (simp at hG; omega))) (fun hG => by first | omega | (have h9 := of_decide_eq_true hG; omega) | (simp at hG; omega))) ?_
    refine wl_v rfl (val_loadN ag_55 (lk rfl) rfl (hs.rec_ rfl encW_len d0W (fun hG => by first | omega | (have h9 := of_decide_eq_true hG; omega) | (simp at hG; omega)))) ?_
    refine wl_alloc zc_55 rfl fun b3 => ?_
    refine wl_storeB 0 rfl (lk rfl) (lk rfl) ag_55 rfl rfl ?_
    refine wl_nil ?_
    refine px_then ?_
    refine wc_seq ?_
    refine wc_region ?_
    refine wl_v rfl (val_field fo_55_1 (lk rfl)) ?_
    refine wl_v rfl (val_load1 t1_3 (lk rfl) (cell_own (.head _) fun _ => rfl)) ?_
    refine wl_v rfl (val_move (lk rfl)) ?_
    refine wl_v rfl (val_eql (lk rfl) (lk rfl)) ?_
    refine wl_v rfl (val_move (lk rfl)) ?_
    refine wl_val (gd_t rfl rfl rfl) rfl (val_field fo_55_3 (lk rfl)) ?_
    refine wl_val (gd_t rfl rfl rfl) rfl (val_loadP (.head _) (lkg rfl) ag_37 rfl) ?_
    refine wl_val (gd_t rfl rfl rfl) rfl (val_loadB (.tail _ (.tail _ (.head _))) (lk rfl) ag_37) ?_
    refine wl_val (gd_t rfl rfl rfl) rfl (val_eqlK (ns := enc2 (nth d0W rs k).tmp) (ms := enc2 p) eqk_37 ist_37 egt_37 (lkg rfl) (lkg rfl) rfl rfl) ?_
    refine wl_v rfl (val_and (lk rfl) (lkg rfl)) ?_
    refine wl_nil ?_
    refine px_then ?_
    refine wc_cond (lk rfl) (fun hc1 => ?_) (fun hc1 => ?_)
    · have hyf : (((nth d0W rs k).net == net) && eq2 (nth d0W rs k).tmp p) = true := by
        have h9 : (((nth d0W rs k).net == net) && (enc2 (nth d0W rs k).tmp == enc2 p)) = true := hc1
        rwa [enc2_eq] at h9
      have htw : tempW rs net p = (k : Nat) := by rw [tempW, ← ht, drop_nth (d := d0W) hlt, findI, if_pos hyf]
      refine wc_seq ?_
      refine wc_region ?_
      refine wl_v rfl (val_field fo_55_0 (lk rfl)) ?_
      refine wl_v rfl (val_loadP (.head _) (lk rfl) ag_29 rfl) ?_
      refine wl_storeB 1 rfl (lk rfl) (lk rfl) ag_29 rfl rfl ?_
      refine wl_v rfl (val_assign lkc) ?_
      refine wl_nil ?_
      refine px_then ?_
      refine wc_ret ?_
      refine px_block_ret ?_
      refine px_then_ret ?_
      refine px_then_ret ?_
      refine px_block_ret ?_
      refine px_then_ret ?_
      refine fin2 rfl (res_cell rfl (.tail _ (.head _)) ag_29) (res_tmp rfl) (fun w1 hw => ?_)
      exact ⟨by rw [resW, isW, htw, if_neg (by omega), decide_eq_true (by omega)]; rfl, hw.drop rfl⟩
    have hnf : ¬ (((nth d0W rs k).net == net) && eq2 (nth d0W rs k).tmp p) = true := by
      have h9 : (((nth d0W rs k).net == net) && (enc2 (nth d0W rs k).tmp == enc2 p)) = false := hc1
      rw [enc2_eq] at h9; simpa using h9
    refine wc_skip ?_
    refine px_block ?_
    refine px_then ?_
    refine wc_region ?_
    refine wl_v rfl (val_inc (lk rfl) (by omega)) ?_
    refine wl_v rfl (val_move (lk rfl)) ?_
    refine wl_nil ?_
    refine px_round0 (k + 1) (⟨by omega, by rw [← ht, drop_nth (d := d0W) hlt, findI, if_neg (hnf)]⟩) (by omega) (⟨rfl, rfl, rfl, rfl, rfl, rfl, rfl, rfl, trivial⟩) (fun _ h => h.dropN 1 rfl)
  have hge : k = rs.length := by have := of_decide_eq_false hc0; omega
  subst hge
  refine wc_exit ?_
  refine px_then_exit ?_
  refine px_then_exit ?_
  refine px_block_exit ?_
  refine px_then ?_
  refine wc_seq ?_
  refine wc_region ?_
  refine wl_v rfl (val_buildP parts0 bl_29_) ?_
  refine wl_storeB 0 rfl (lk rfl) (lk rfl) ag_29 rfl rfl ?_
  refine wl_v rfl (val_assign lkc) ?_
  refine wl_nil ?_
  refine px_then ?_
  refine wc_ret ?_
  refine fin2 rfl (res_cell rfl (.head _) ag_29) (res_tmp rfl) (fun w1 hw => ?_)
  have htw : tempW rs net p = -1 := by rw [tempW, ← ht]; simp [findI]
  exact ⟨by rw [resW, isW, htw, if_pos (by decide)]; rfl, hw.drop rfl⟩

theorem sEqualW_c (rs ys : List Reg) (A B : Option Addr) (b o c b2 o2 c2 : Nat) (w : World) (hs : Sl w A b o (flat encW rs)) (hl : rs.length ≤ 1048576) (hs2 : Sl w B b2 o2 (flat encW ys)) :
    Calls Try.prog 22 #[.slice A rs.length c, .slice B ys.length c2] w fun e w' => e = .returned (.bool (eqRows eqW rs ys)) ∧ HP w [] w' := by
  refine calls_entry [] _ Try.func22 rfl Try.ntmps22 (HP.refl w) (env2 rfl) ?_
  refine wc_seq ?_
  refine wc_region ?_
  refine wl_v rfl (val_assign lkc) ?_
  refine wl_nil ?_
  refine px_then ?_
  refine wc_seq ?_
  refine wc_seq ?_
  refine wc_region ?_
  refine wl_v rfl (val_move (lk rfl)) ?_
  refine wl_v rfl (val_len es_27 (lk rfl)) ?_
  refine wl_v rfl (val_move (lk rfl)) ?_
  refine wl_v rfl (val_len es_27 (lk rfl)) ?_
  refine wl_v rfl (val_neq (lk rfl) (lk rfl)) ?_
  refine wl_nil ?_
  refine px_then ?_
  refine wc_cond (lk rfl) (fun hc0 => ?_) (fun hc0 => ?_)
  · refine wc_seq ?_
    refine wc_region ?_
    refine wl_v rfl (val_assign lkc) ?_
    refine wl_nil ?_
    refine px_then ?_
    refine wc_ret ?_
    refine px_then_ret ?_
    refine fin1 rfl (res_tmp rfl) (fun w1 hw => ?_)
    exact ⟨by rw [eqRows_ne (cast_ne' hc0)], hw.drop rfl⟩
  have hxy : rs.length = ys.length := cast_ne hc0
  refine wc_skip ?_
  refine px_then ?_
  refine wc_seq ?_
  refine wc_seq ?_
  refine wc_region ?_
  refine wl_v rfl (val_assign lkc) ?_
  refine wl_nil ?_
  refine px_then ?_
  refine wc_block ?_
  refine wc_trim (l' := [(0, _), (1, _), (4, _), (5, _)]) ⟨rfl, rfl, rfl, rfl, trivial⟩ ?_
  refine wc_loop0 (X := Nat) (fun k => k ≤ rs.length ∧ eqRows eqW (rs.drop k) (ys.drop k) = eqRows eqW rs ys) (fun k => [(5, (true, .int .i64 (k : Nat)))]) (fun k => rs.length - k) 0 (⟨Nat.zero_le _, rfl⟩) ⟨rfl, rfl, rfl, rfl, rfl, trivial⟩ ?_
  rintro k ⟨hk, ht⟩
  refine wc_seq ?_
  refine wc_seq ?_
  refine wc_region ?_
  refine wl_v rfl (val_move (lk rfl)) ?_
  refine wl_v rfl (val_move (lk rfl)) ?_
  refine wl_v rfl (val_len es_27 (lk rfl)) ?_
  refine wl_v rfl (val_lss (lk rfl) (lk rfl)) ?_
  refine wl_nil ?_
  refine px_then ?_
  refine wc_cond (lk rfl) (fun hc1 => ?_) (fun hc1 => ?_)
  · have hlt : k < rs.length := by have := of_decide_eq_true hc1; omega
    refine wc_skip ?_
    refine px_then ?_
    refine wc_seq ?_
    refine wc_block ?_
    refine wc_seq ?_
    refine wc_region_q mo_ (by kernel_rfl) ?_
    refine wq_v rfl (val_move (lk rfl)) ?_
    refine wq_v rfl (val_move (lk rfl)) ?_
    refine wq_v rfl (val_index es_27 (lk rfl) (lk rfl) (fun hG => hs.hd encW_len (by decide) (i := k) (by first | omega | (have h9 := of_decide_eq_true hG; omega) | (simp at hG; omega))) (fun hG => by first | omega | (have h9 := of_decide_eq_true hG; omega) | (simp at hG; omega))) ?_
    refine wq_v rfl (val_loadN ag_55 (lk rfl) rfl (hs.rec_ rfl encW_len d0W (fun hG => by first | omega | (have h9 := of_decide_eq_true hG; omega) | (simp at hG; omega)))) ?_
    refine wq_v rfl (val_move (lk rfl)) ?_
    refine wq_v rfl (val_move (lk rfl)) ?_
    refine wq_v rfl (val_index es_27 (lk rfl) (lk rfl) (fun hG => hs2.hd encW_len (by decide) (i := k) (by first | omega | (have h9 := of_decide_eq_true hG; omega) | (simp at hG; omega))) (fun hG => by first | omega | (have h9 := of_decide_eq_true hG; omega) | (simp at hG; omega))) ?_
    refine wq_v rfl (val_loadN ag_55 (lk rfl) rfl (hs2.rec_ rfl encW_len d0W (fun hG => by first | omega | (have h9 := of_decide_eq_true hG; omega) | (simp at hG; omega)))) ?_
    refine wq_v rfl (val_neqK eqk_55 ist_55 egt_55 (lk rfl) (lk rfl) rfl rfl) ?_
    refine wq_nil ?_
    refine px_then ?_
    refine wc_cond (lk rfl) (fun hc2 => ?_) (fun hc2 => ?_)
    · have hq : eqW (nth d0W rs k) (nth d0W ys k) = false := by
        have h9 : (encW (nth d0W rs k) != encW (nth d0W ys k)) = true := hc2
        rw [bne, encW_eq] at h9; simpa using h9
      refine wc_seq ?_
      refine wc_region ?_
      refine wl_v rfl (val_assign lkc) ?_
      refine wl_nil ?_
      refine px_then ?_
      refine wc_ret ?_
      refine px_block_ret ?_
      refine px_then_ret ?_
      refine px_then_ret ?_
      refine px_block_ret ?_
      refine px_then_ret ?_
      refine fin1 rfl (res_tmp rfl) (fun w1 hw => ?_)
      exact ⟨by rw [← ht, eqRows_step (d := d0W) hlt (by omega), hq]; rfl, hw.drop rfl⟩
    have hq : eqW (nth d0W rs k) (nth d0W ys k) = true := by
      have h9 : (encW (nth d0W rs k) != encW (nth d0W ys k)) = false := hc2
      rw [bne, encW_eq] at h9; simpa using h9
    refine wc_skip ?_
    refine px_block ?_
    refine px_then ?_
    refine wc_region ?_
    refine wl_v rfl (val_move (lk rfl)) ?_
    refine wl_v rfl (val_inc (lk rfl) (by omega)) ?_
    refine wl_v rfl (val_assign (lk rfl)) ?_
    refine wl_nil ?_
    refine px_round0 (k + 1) (⟨by omega, by rw [← ht, eqRows_step (d := d0W) hlt (by omega), hq]; rfl⟩) (by omega) (⟨rfl, rfl, rfl, rfl, rfl, trivial⟩) (fun _ h => h.dropN 0 rfl)
  have hge : k = rs.length := by have := of_decide_eq_false hc1; omega
  subst hge
  refine wc_exit ?_
  refine px_then_exit ?_
  refine px_then_exit ?_
  refine px_block_exit ?_
  refine px_then ?_
  refine wc_seq ?_
  refine wc_region ?_
  refine wl_v rfl (val_assign lkc) ?_
  refine wl_nil ?_
  refine px_then ?_
  refine wc_ret ?_
  refine fin1 rfl (res_tmp rfl) (fun w1 hw => ?_)
  have e1 : rs.drop rs.length = [] := by simp
  have e2 : ys.drop rs.length = [] := by simp [hxy]
  exact ⟨by rw [← ht, e1, e2]; rfl, hw.drop rfl⟩

theorem EqualS_c (rs ys : List Reg) (A B : Option Addr) (b o c b2 o2 c2 : Nat) (w : World) (hs : Sl w A b o (flat encW rs)) (hl : rs.length ≤ 1048576) (hs2 : Sl w B b2 o2 (flat encW ys)) :
    Calls Try.prog 40 #[.slice A rs.length c, .slice B ys.length c2] w fun e w' => e = .returned (.bool (eqRows eqW rs ys)) ∧ HP w [] w' := by
  refine calls_entry [] _ Try.func40 rfl Try.ntmps40 (HP.refl w) (env2 rfl) ?_
  refine wc_seq ?_
  refine wc_region ?_
  refine wl_v rfl (val_assign lkc) ?_
  refine wl_nil ?_
  refine px_then ?_
  refine wc_seq ?_
  refine wc_seq ?_
  refine wc_region ?_
  refine wl_v rfl (val_move (lk rfl)) ?_
  refine wl_v rfl (val_len es_27 (lk rfl)) ?_
  refine wl_v rfl (val_move (lk rfl)) ?_
  refine wl_v rfl (val_len es_27 (lk rfl)) ?_
  refine wl_v rfl (val_neq (lk rfl) (lk rfl)) ?_
  refine wl_nil ?_
  refine px_then ?_
  refine wc_cond (lk rfl) (fun hc0 => ?_) (fun hc0 => ?_)
  · refine wc_seq ?_
    refine wc_region ?_
    refine wl_v rfl (val_assign lkc) ?_
    refine wl_nil ?_
    refine px_then ?_
    refine wc_ret ?_
    refine px_then_ret ?_
    refine fin1 rfl (res_tmp rfl) (fun w1 hw => ?_)
    exact ⟨by rw [eqRows_ne (cast_ne' hc0)], hw.drop rfl⟩
  have hxy : rs.length = ys.length := cast_ne hc0
  refine wc_skip ?_
  refine px_then ?_
  refine wc_seq ?_
  refine wc_seq ?_
  refine wc_region ?_
  refine wl_v rfl (val_move (lk rfl)) ?_
  refine wl_v rfl (val_len es_27 (lk rfl)) ?_
  refine wl_v rfl (val_move lkc) ?_
  refine wl_nil ?_
  refine px_then ?_
  refine wc_block ?_
  refine wc_trim (l' := [(0, _), (1, _), (4, _), (12, _), (13, _)]) ⟨rfl, rfl, rfl, rfl, rfl, trivial⟩ ?_
  refine wc_loop0 (X := Nat) (fun k => k ≤ rs.length ∧ eqRows eqW (rs.drop k) (ys.drop k) = eqRows eqW rs ys) (fun k => [(13, (true, .int .i64 (k : Nat)))]) (fun k => rs.length - k) 0 (⟨Nat.zero_le _, rfl⟩) ⟨rfl, rfl, rfl, rfl, rfl, rfl, trivial⟩ ?_
  rintro k ⟨hk, ht⟩
  refine wc_seq ?_
  refine wc_region ?_
  refine wl_v rfl (val_lss (lk rfl) (lk rfl)) ?_
  refine wl_nil ?_
  refine px_then ?_
  refine wc_seq ?_
  refine wc_cond (lk rfl) (fun hc1 => ?_) (fun hc1 => ?_)
  · have hlt : k < rs.length := by have := of_decide_eq_true hc1; omega
    refine wc_skip ?_
    refine px_then ?_
    refine wc_seq ?_
    refine wc_block ?_
    refine wc_seq ?_
    refine wc_region ?_
    refine wl_v rfl (val_move (lk rfl)) ?_
    refine wl_v rfl (val_assign (lk rfl)) ?_
    refine wl_nil ?_
    refine px_then ?_
    refine wc_seq ?_
    refine wc_region_q mo_ (by kernel_rfl) ?_
    refine wq_v rfl (val_move (lk rfl)) ?_
    refine wq_v rfl (val_move (lk rfl)) ?_
    refine wq_v rfl (val_index es_27 (lk rfl) (lk rfl) (fun hG => hs.hd encW_len (by decide) (i := k) (by first | omega | (have h9 := of_decide_eq_true hG; omega) | (simp at hG; omega))) (fun hG => by first | omega | (have h9 := of_decide_eq_true hG; omega) | (simp at hG; omega))) ?_
    refine wq_v rfl (val_loadN ag_55 (lk rfl) rfl (hs.rec_ rfl encW_len d0W (fun hG => by first | omega | (have h9 := of_decide_eq_true hG; omega) | (simp at hG; omega)))) ?_
    refine wq_v rfl (val_move (lk rfl)) ?_
    refine wq_v rfl (val_move (lk rfl)) ?_
    refine wq_v rfl (val_index es_27 (lk rfl) (lk rfl) (fun hG => hs2.hd encW_len (by decide) (i := k) (by first | omega | (have h9 := of_decide_eq_true hG; omega) | (simp at hG; omega))) (fun hG => by first | omega | (have h9 := of_decide_eq_true hG; omega) | (simp at hG; omega))) ?_
    refine wq_v rfl (val_loadN ag_55 (lk rfl) rfl (hs2.rec_ rfl encW_len d0W (fun hG => by first | omega | (have h9 := of_decide_eq_true hG; omega) | (simp at hG; omega)))) ?_
    refine wq_v rfl (val_neqK eqk_55 ist_55 egt_55 (lk rfl) (lk rfl) rfl rfl) ?_
    refine wq_nil ?_
    refine px_then ?_
    refine wc_cond (lk rfl) (fun hc2 => ?_) (fun hc2 => ?_)
    · have hq : eqW (nth d0W rs k) (nth d0W ys k) = false := by
        have h9 : (encW (nth d0W rs k) != encW (nth d0W ys k)) = true := hc2
        rw [bne, encW_eq] at h9; simpa using h9
      refine wc_seq ?_
      refine wc_region ?_
      refine wl_v rfl (val_assign lkc) ?_
      refine wl_nil ?_
      refine px_then ?_
      refine wc_ret ?_
      refine px_block_ret ?_
      refine px_then_ret ?_
      refine px_then_ret ?_
      refine px_block_ret ?_
      refine px_then_ret ?_
      refine fin1 rfl (res_tmp rfl) (fun w1 hw => ?_)
      exact ⟨by rw [← ht, eqRows_step (d := d0W) hlt (by omega), hq]; rfl, hw.drop rfl⟩
    have hq : eqW (nth d0W rs k) (nth d0W ys k) = true := by
      have h9 : (encW (nth d0W rs k) != encW (nth d0W ys k)) = false := hc2
      rw [bne, encW_eq] at h9; simpa using h9
    refine wc_skip ?_
    refine px_block ?_
    refine px_then ?_
    refine wc_region ?_
    refine wl_v rfl (val_inc (lk rfl) (by omega)) ?_
    refine wl_v rfl (val_move (lk rfl)) ?_
    refine wl_nil ?_
    refine px_round0 (k + 1) (⟨by omega, by rw [← ht, eqRows_step (d := d0W) hlt (by omega), hq]; rfl⟩) (by omega) (⟨rfl, rfl, rfl, rfl, rfl, rfl, trivial⟩) (fun _ h => h.dropN 0 rfl)
  have hge : k = rs.length := by have := of_decide_eq_false hc1; omega
  subst hge
  refine wc_exit ?_
  refine px_then_exit ?_
  refine px_then_exit ?_
  refine px_block_exit ?_
  refine px_then ?_
  refine wc_seq ?_
  refine wc_region ?_
  refine wl_v rfl (val_assign lkc) ?_
  refine wl_nil ?_
  refine px_then ?_
  refine wc_ret ?_
  refine fin1 rfl (res_tmp rfl) (fun w1 hw => ?_)
  have e1 : rs.drop rs.length = [] := by simp
  have e2 : ys.drop rs.length = [] := by simp [hxy]
  exact ⟨by rw [← ht, e1, e2]; rfl, hw.drop rfl⟩

theorem EqualW_c (rs ys : List Reg) (A B : Option Addr) (b o c b2 o2 c2 : Nat) (w : World) (hs : Sl w A b o (flat encW rs)) (hl : rs.length ≤ 1048576) (hs2 : Sl w B b2 o2 (flat encW ys)) :
    Calls Try.prog 23 #[.slice A rs.length c, .slice B ys.length c2] w fun e w' => e = .returned (.bool (eqRows eqW rs ys)) ∧ HP w [] w' := by
  refine calls_entry [] _ Try.func23 rfl Try.ntmps23 (HP.refl w) (env2 rfl) ?_
  refine wc_seq ?_
  refine wc_region ?_
  refine wl_v rfl (val_assign lkc) ?_
  refine wl_nil ?_
  refine px_then ?_
  refine wc_seq ?_
  refine wc_region ?_
  refine wl_v rfl (val_move (lk rfl)) ?_
  refine wl_v rfl (val_move (lk rfl)) ?_
  refine wl_call gd_none rfl ci_40 (args2 (lk rfl) (lk rfl)) (fun hG w1 hw => EqualS_c rs ys _ _ _ _ _ _ _ _ w1 (hs.hp hw rfl) (by omega) (hs2.hp hw rfl)) ?_
  refine wl_v rfl (val_assign (lk rfl)) ?_
  refine wl_nil ?_
  refine px_then ?_
  refine wc_ret ?_
  refine fin1 rfl (res_tmp rfl) (fun w1 hw => ?_)
  exact ⟨rfl, hw.drop rfl⟩

theorem sMay_c (rs : List Reg) (A : Option Addr) (b o c : Nat) (a : Int) (p : Int × Int) (w : World) (hs : Sl w A b o (flat encW rs)) (hl : rs.length ≤ 1048576) :
    Calls Try.prog 24 #[.slice A rs.length c, .int .i64 a, .agg (recV enc2 p).toArray] w fun e w' => e = .returned (.bool (mayW rs a p)) ∧ HP w [] w' := by
  refine calls_entry [] _ Try.func24 rfl Try.ntmps24 (HP.refl w) (env3 rfl) ?_
  refine wc_seq ?_
  refine wc_region ?_
  refine wl_box (lk rfl) rfl fun b1 => ?_
  refine wl_v rfl (val_assign lkc) ?_
  refine wl_nil ?_
  refine px_then ?_
  refine wc_seq ?_
  refine wc_region ?_
  refine wl_v rfl (val_move (lk rfl)) ?_
  refine wl_v rfl (val_loadB (.head _) (lk rfl) ag_29) ?_
  refine wl_call gd_none rfl ci_13 (args2 (lk rfl) (lk rfl)) (fun hG w1 hw => sFindW_c rs _ _ _ _ p w1 (hs.hp hw rfl) hl) ?_
  refine wl_v rfl (val_assign (lk rfl)) ?_
  refine wl_nil ?_
  refine px_then ?_
  refine wc_seq ?_
  refine wc_region ?_
  refine wl_v rfl (val_move (lk rfl)) ?_
  refine wl_v rfl (val_field fo_29_0 (lk rfl)) ?_
  refine wl_v rfl (val_load1 t1_3 (lk rfl) (cell_own (.head _) fun _ => rfl)) ?_
  refine wl_v rfl (val_eql (lk rfl) (lk rfl)) ?_
  refine wl_v rfl (val_move (lk rfl)) ?_
  refine wl_val (gd_f rfl rfl rfl) rfl (val_move (lk rfl)) ?_
  refine wl_val (gd_f rfl rfl rfl) rfl (val_geq (lkg rfl) lkc) ?_
  refine wl_val (gd_f rfl rfl rfl) rfl (val_move (lkg rfl)) ?_
  refine wl_val (gd_gt rfl rfl rfl) rfl (val_move (lk rfl)) ?_
  refine wl_val (gd_gt rfl rfl rfl) rfl (val_move (lk rfl)) ?_
  refine wl_val (gd_gt rfl rfl rfl) rfl (val_indexI es_27 (lkg rfl) (lkg rfl) (fun hG => hs.hd encW_len (by decide) (i := (findW rs p).toNat) (findW_lt (by simp at hG; omega)).1) (fun hG => ⟨by simp at hG; omega, (findW_lt (by simp at hG; omega)).2⟩)) ?_
  refine wl_val (gd_gt rfl rfl rfl) rfl (val_field fo_55_1 (lkg rfl)) ?_
  refine wl_val (gd_gt rfl rfl rfl) rfl (val_load1 t1_3 (lkg rfl) (cell_old rfl fun hG => hs.fld encW_len d0W (i := (findW rs p).toNat) (f := 2) (findW_lt (by simp at hG; omega)).1 (by decide) rfl)) ?_
  refine wl_val (gd_gt rfl rfl rfl) rfl (val_move (lk rfl)) ?_
  refine wl_val (gd_gt rfl rfl rfl) rfl (val_eql (lkg rfl) (lkg rfl)) ?_
  refine wl_val (gd_f rfl rfl rfl) rfl (val_and (lkg rfl) (lkg rfl)) ?_
  refine wl_v rfl (val_or (lk rfl) (lkg rfl)) ?_
  refine wl_v rfl (val_assign (lk rfl)) ?_
  refine wl_nil ?_
  refine px_then ?_
  refine wc_ret ?_
  refine fin1 rfl (res_tmp rfl) (fun w1 hw => ?_)
  exact ⟨rfl, hw.drop rfl⟩

theorem May_c (rs : List Reg) (A : Option Addr) (b o c : Nat) (a : Int) (p : Int × Int) (w : World) (hs : Sl w A b o (flat encW rs)) (hl : rs.length ≤ 1048576) :
    Calls Try.prog 25 #[.slice A rs.length c, .int .i64 a, .agg (recV enc2 p).toArray] w fun e w' => e = .returned (.bool (mayW rs a p)) ∧ HP w [] w' := by
  refine calls_entry [] _ Try.func25 rfl Try.ntmps25 (HP.refl w) (env3 rfl) ?_
  refine wc_seq ?_
  refine wc_region ?_
  refine wl_box (lk rfl) rfl fun b1 => ?_
  refine wl_v rfl (val_assign lkc) ?_
  refine wl_nil ?_
  refine px_then ?_
  refine wc_seq ?_
  refine wc_seq ?_
  refine wc_region ?_
  refine wl_v rfl (val_move (lk rfl)) ?_
  refine wl_v rfl (val_field fo_29_0 (lk rfl)) ?_
  refine wl_v rfl (val_load1 t1_3 (lk rfl) (cell_own (.head _) fun _ => rfl)) ?_
  refine wl_v rfl (val_eql (lk rfl) (lk rfl)) ?_
  refine wl_nil ?_
  refine px_then ?_
  refine wc_cond (lk rfl) (fun hc0 => ?_) (fun hc0 => ?_)
  · refine wc_seq ?_
    refine wc_region ?_
    refine wl_v rfl (val_assign lkc) ?_
    refine wl_nil ?_
    refine px_then ?_
    refine wc_ret ?_
    refine px_then_ret ?_
    refine fin1 rfl (res_tmp rfl) (fun w1 hw => ?_)
    exact ⟨by rw [mayW, hc0]; rfl, hw.drop rfl⟩
  refine wc_skip ?_
  refine px_then ?_
  refine wc_seq ?_
  refine wc_region ?_
  refine wl_v rfl (val_move (lk rfl)) ?_
  refine wl_v rfl (val_loadB (.head _) (lk rfl) ag_29) ?_
  refine wl_call gd_none rfl ci_16 (args2 (lk rfl) (lk rfl)) (fun hG w1 hw => FindW_c rs _ _ _ _ p w1 (hs.hp hw rfl) hl) ?_
  refine wl_v rfl (val_assign (lk rfl)) ?_
  refine wl_nil ?_
  refine px_then ?_
  refine wc_seq ?_
  refine wc_region ?_
  refine wl_v rfl (val_move (lk rfl)) ?_
  refine wl_v rfl (val_geq (lk rfl) lkc) ?_
  refine wl_v rfl (val_move (lk rfl)) ?_
  refine wl_val (gd_t rfl rfl rfl) rfl (val_move (lk rfl)) ?_
  refine wl_val (gd_t rfl rfl rfl) rfl (val_move (lk rfl)) ?_
  refine wl_val (gd_t rfl rfl rfl) rfl (val_indexI es_27 (lkg rfl) (lkg rfl) (fun hG => hs.hd encW_len (by decide) (i := (findW rs p).toNat) (findW_lt (of_decide_eq_true hG)).1) (fun hG => ⟨of_decide_eq_true hG, (findW_lt (of_decide_eq_true hG)).2⟩)) ?_
  refine wl_val (gd_t rfl rfl rfl) rfl (val_field fo_55_1 (lkg rfl)) ?_
  refine wl_val (gd_t rfl rfl rfl) rfl (val_load1 t1_3 (lkg rfl) (cell_old rfl fun hG => hs.fld encW_len d0W (i := (findW rs p).toNat) (f := 2) (findW_lt (of_decide_eq_true hG)).1 (by decide) rfl)) ?_
  refine wl_val (gd_t rfl rfl rfl) rfl (val_move (lk rfl)) ?_
  refine wl_val (gd_t rfl rfl rfl) rfl (val_eql (lkg rfl) (lkg rfl)) ?_
  refine wl_v rfl (val_and (lk rfl) (lkg rfl)) ?_
  refine wl_v rfl (val_assign (lk rfl)) ?_
  refine wl_nil ?_
  refine px_then ?_
  refine wc_ret ?_
  refine fin1 rfl (res_tmp rfl) (fun w1 hw => ?_)
  exact ⟨by rw [mayW, hc0]; rfl, hw.drop rfl⟩

theorem sLoc_c (rs : List Reg) (A : Option Addr) (b o c : Nat) (a : Int) (p : Int × Int) (w : World) (hs : Sl w A b o (flat encW rs)) (hl : rs.length ≤ 1048576) :
    Calls Try.prog 26 #[.slice A rs.length c, .int .i64 a, .agg (recV enc2 p).toArray] w fun e w' => e = .returned (.tuple #[.int .i64 (areaW rs a p), .bool (locW rs a p)]) ∧ HP w [] w' := by
  refine calls_entry [] _ Try.func26 rfl Try.ntmps26 (HP.refl w) (env3 rfl) ?_
  refine wc_seq ?_
  refine wc_region ?_
  refine wl_box (lk rfl) rfl fun b1 => ?_
  refine wl_v rfl (val_assign lkc) ?_
  refine wl_v rfl (val_assign lkc) ?_
  refine wl_nil ?_
  refine px_then ?_
  refine wc_seq ?_
  refine wc_region ?_
  refine wl_v rfl (val_move (lk rfl)) ?_
  refine wl_v rfl (val_loadB (.head _) (lk rfl) ag_29) ?_
  refine wl_call gd_none rfl ci_13 (args2 (lk rfl) (lk rfl)) (fun hG w1 hw => sFindW_c rs _ _ _ _ p w1 (hs.hp hw rfl) hl) ?_
  refine wl_v rfl (val_assign (lk rfl)) ?_
  refine wl_nil ?_
  refine px_then ?_
  refine wc_seq ?_
  refine wc_seq ?_
  refine wc_region ?_
  refine wl_v rfl (val_move (lk rfl)) ?_
  refine wl_v rfl (val_lss (lk rfl) lkc) ?_
  refine wl_v rfl (val_move (lk rfl)) ?_
  refine wl_val (gd_f rfl rfl rfl) rfl (val_move (lk rfl)) ?_
  refine wl_val (gd_f rfl rfl rfl) rfl (val_move (lk rfl)) ?_
  refine wl_val (gd_f rfl rfl rfl) rfl (val_loadB (.head _) (lk rfl) ag_29) ?_
  refine wl_call (gd_f rfl rfl rfl) rfl ci_24 (args3 (lkg rfl) (lkg rfl) (lkg rfl)) (fun hG w1 hw => sMay_c rs _ _ _ _ a p w1 (hs.hp hw rfl) hl) ?_
  refine wl_val (gd_f rfl rfl rfl) rfl (val_not (lkg rfl)) ?_
  refine wl_v rfl (val_or (lk rfl) (lkg rfl)) ?_
  refine wl_nil ?_
  refine px_then ?_
  refine wc_cond (lk rfl) (fun hc0 => ?_) (fun hc0 => ?_)
  · have hlo : locW rs a p = false := by
      rw [locW, show decide (0 ≤ findW rs p) = !decide (findW rs p < 0) by rw [Bool.eq_iff_iff]; simp]
      revert hc0; cases mayW rs a p <;> simp
    refine wc_seq ?_
    refine wc_region ?_
    refine wl_v rfl (val_assign lkc) ?_
    refine wl_v rfl (val_assign lkc) ?_
    refine wl_nil ?_
    refine px_then ?_
    refine wc_ret ?_
    refine px_then_ret ?_
    refine fin2 rfl (res_tmp rfl) (res_tmp rfl) (fun w1 hw => ?_)
    exact ⟨by rw [areaW, hlo]; rfl, hw.drop rfl⟩
  have hlo : locW rs a p = true := by
    rw [locW, show decide (0 ≤ findW rs p) = !decide (findW rs p < 0) by rw [Bool.eq_iff_iff]; simp]
    revert hc0; cases mayW rs a p <;> simp
  have h0 : 0 ≤ findW rs p := of_decide_eq_true (Bool.and_eq_true _ _ ▸ hlo : _ ∧ _).1
  refine wc_skip ?_
  refine px_then ?_
  refine wc_seq ?_
  refine wc_region ?_
  refine wl_v rfl (val_move (lk rfl)) ?_
  refine wl_v rfl (val_move (lk rfl)) ?_
  refine wl_v rfl (val_indexI es_27 (lk rfl) (lk rfl) (fun hG => hs.hd encW_len (by decide) (i := (findW rs p).toNat) (findW_lt (h0)).1) (fun hG => ⟨h0, (findW_lt (h0)).2⟩)) ?_
  refine wl_v rfl (val_field fo_55_2 (lk rfl)) ?_
  refine wl_v rfl (val_load1 t1_3 (lk rfl) (cell_old rfl fun hG => hs.fld encW_len d0W (i := (findW rs p).toNat) (f := 3) (findW_lt (h0)).1 (by decide) rfl)) ?_
  refine wl_v rfl (val_assign (lk rfl)) ?_
  refine wl_v rfl (val_assign lkc) ?_
  refine wl_nil ?_
  refine px_then ?_
  refine wc_ret ?_
  refine fin2 rfl (res_tmp rfl) (res_tmp rfl) (fun w1 hw => ?_)
  exact ⟨by rw [areaW, hlo]; rfl, hw.drop rfl⟩

theorem Loc_c (rs : List Reg) (A : Option Addr) (b o c : Nat) (a : Int) (p : Int × Int) (w : World) (hs : Sl w A b o (flat encW rs)) (hl : rs.length ≤ 1048576) :
    Calls Try.prog 27 #[.slice A rs.length c, .int .i64 a, .agg (recV enc2 p).toArray] w fun e w' => e = .returned (.tuple #[.int .i64 (areaW rs a p), .bool (locW rs a p)]) ∧ HP w [] w' := by
  refine calls_entry [] _ Try.func27 rfl Try.ntmps27 (HP.refl w) (env3 rfl) ?_
  refine wc_seq ?_
  refine wc_region ?_
  refine wl_box (lk rfl) rfl fun b1 => ?_
  refine wl_v rfl (val_assign lkc) ?_
  refine wl_v rfl (val_assign lkc) ?_
  refine wl_nil ?_
  refine px_then ?_
  refine wc_seq ?_
  refine wc_region ?_
  refine wl_v rfl (val_move (lk rfl)) ?_
  refine wl_v rfl (val_loadB (.head _) (lk rfl) ag_29) ?_
  refine wl_call gd_none rfl ci_16 (args2 (lk rfl) (lk rfl)) (fun hG w1 hw => FindW_c rs _ _ _ _ p w1 (hs.hp hw rfl) hl) ?_
  refine wl_v rfl (val_assign (lk rfl)) ?_
  refine wl_nil ?_
  refine px_then ?_
  refine wc_seq ?_
  refine wc_seq ?_
  refine wc_region ?_
  refine wl_v rfl (val_move (lk rfl)) ?_
  refine wl_v rfl (val_lss (lk rfl) lkc) ?_
  refine wl_v rfl (val_move (lk rfl)) ?_
  refine wl_val (gd_f rfl rfl rfl) rfl (val_move (lk rfl)) ?_
  refine wl_val (gd_f rfl rfl rfl) rfl (val_move (lk rfl)) ?_
  refine wl_val (gd_f rfl rfl rfl) rfl (val_loadB (.head _) (lk rfl) ag_29) ?_
  refine wl_call (gd_f rfl rfl rfl) rfl ci_25 (args3 (lkg rfl) (lkg rfl) (lkg rfl)) (fun hG w1 hw => May_c rs _ _ _ _ a p w1 (hs.hp hw rfl) hl) ?_
  refine wl_val (gd_f rfl rfl rfl) rfl (val_not (lkg rfl)) ?_
  refine wl_v rfl (val_or (lk rfl) (lkg rfl)) ?_
  refine wl_nil ?_
  refine px_then ?_
  refine wc_cond (lk rfl) (fun hc0 => ?_) (fun hc0 => ?_)
  · have hlo : locW rs a p = false := by
      rw [locW, show decide (0 ≤ findW rs p) = !decide (findW rs p < 0) by rw [Bool.eq_iff_iff]; simp]
      revert hc0; cases mayW rs a p <;> simp
    refine wc_seq ?_
    refine wc_region ?_
    refine wl_v rfl (val_assign lkc) ?_
    refine wl_v rfl (val_assign lkc) ?_
    refine wl_nil ?_
    refine px_then ?_
    refine wc_ret ?_
    refine px_then_ret ?_
    refine fin2 rfl (res_tmp rfl) (res_tmp rfl) (fun w1 hw => ?_)
    exact ⟨by rw [areaW, hlo]; rfl, hw.drop rfl⟩
  have hlo : locW rs a p = true := by
    rw [locW, show decide (0 ≤ findW rs p) = !decide (findW rs p < 0) by rw [Bool.eq_iff_iff]; simp]
    revert hc0; cases mayW rs a p <;> simp
  have h0 : 0 ≤ findW rs p := of_decide_eq_true (Bool.and_eq_true _ _ ▸ hlo : _ ∧ _).1
  refine wc_skip ?_
  refine px_then ?_
  refine wc_seq ?_
  refine wc_region ?_
  refine wl_v rfl (val_move (lk rfl)) ?_
  refine wl_v rfl (val_move (lk rfl)) ?_
  refine wl_v rfl (val_indexI es_27 (lk rfl) (lk rfl) (fun hG => hs.hd encW_len (by decide) (i := (findW rs p).toNat) (findW_lt (h0)).1) (fun hG => ⟨h0, (findW_lt (h0)).2⟩)) ?_
  refine wl_v rfl (val_field fo_55_2 (lk rfl)) ?_
  refine wl_v rfl (val_load1 t1_3 (lk rfl) (cell_old rfl fun hG => hs.fld encW_len d0W (i := (findW rs p).toNat) (f := 3) (findW_lt (h0)).1 (by decide) rfl)) ?_
  refine wl_v rfl (val_assign (lk rfl)) ?_
  refine wl_v rfl (val_assign lkc) ?_
  refine wl_nil ?_
  refine px_then ?_
  refine wc_ret ?_
  refine fin2 rfl (res_tmp rfl) (res_tmp rfl) (fun w1 hw => ?_)
  exact ⟨by rw [areaW, hlo]; rfl, hw.drop rfl⟩

theorem sOkRegs_c (rs : List Reg) (A : Option Addr) (b o c : Nat) (w : World) (hs : Sl w A b o (flat encW rs)) (hl : rs.length ≤ 1048576) (hc : rs.length ≤ c) :
    Calls Try.prog 28 #[.slice A rs.length c] w fun e w' => e = .returned (.bool (okRegs rs)) ∧ HP w [] w' := by
  refine calls_entry [] _ Try.func28 rfl Try.ntmps28 (HP.refl w) (env1 rfl) ?_
  refine wc_seq ?_
  refine wc_region ?_
  refine wl_v rfl (val_assign lkc) ?_
  refine wl_nil ?_
  refine px_then ?_
  refine wc_seq ?_
  refine wc_seq ?_
  refine wc_region ?_
  refine wl_v rfl (val_assign lkc) ?_
  refine wl_nil ?_
  refine px_then ?_
  refine wc_block ?_
  refine wc_trim (l' := [(0, _), (2, _), (3, _)]) ⟨rfl, rfl, rfl, trivial⟩ ?_
  refine wc_loop0 (X := Nat) (fun k => k ≤ rs.length ∧ ∀ i, i < k → okWAt rs i = true) (fun k => [(3, (true, .int .i64 (k : Nat)))]) (fun k => rs.length - k) 0 (⟨Nat.zero_le _, fun i h => absurd h (Nat.not_lt_zero i)⟩) ⟨rfl, rfl, rfl, rfl, trivial⟩ ?_
  rintro k ⟨hk, ht⟩
  refine wc_seq ?_
  refine wc_seq ?_
  refine wc_region ?_
  refine wl_v rfl (val_move (lk rfl)) ?_
  refine wl_v rfl (val_move (lk rfl)) ?_
  refine wl_v rfl (val_len es_27 (lk rfl)) ?_
  refine wl_v rfl (val_lss (lk rfl) (lk rfl)) ?_
  refine wl_nil ?_
  refine px_then ?_
  refine wc_cond (lk rfl) (fun hc0 => ?_) (fun hc0 => ?_)
  · have hlt : k < rs.length := by have := of_decide_eq_true hc0; omega
    have htl : (rs.take k).length = k := by rw [List.length_take]; omega
    have hst : Sl w (if c = 0 then A else A.map (·.add (0 * 6))) b o (flat encW (rs.take k)) := (hs.sub0.take (k * 6)).eq (flat_take encW_len rs k (by omega))
    refine wc_skip ?_
    refine px_then ?_
    refine wc_seq ?_
    refine wc_block ?_
    refine wc_seq ?_
    refine wc_region ?_
    refine wl_v rfl (val_move (lk rfl)) ?_
    refine wl_v rfl (val_move (lk rfl)) ?_
    refine wl_v rfl (val_index es_27 (lk rfl) (lk rfl) (fun hG => hs.hd encW_len (by decide) (i := k) (by first | omega | (have h9 := of_decide_eq_true hG; omega) | (simp at hG; omega))) (fun hG => by first | omega | (have h9 := of_decide_eq_true hG; omega) | (simp at hG; omega))) ?_
    refine wl_v rfl (val_loadN ag_55 (lk rfl) rfl (hs.rec_ rfl encW_len d0W (fun hG => by first | omega | (have h9 := of_decide_eq_true hG; omega) | (simp at hG; omega)))) ?_
    refine wl_alloc zc_55 rfl fun b1 => ?_
    refine wl_storeB 0 rfl (lk rfl) (lk rfl) ag_55 rfl rfl ?_
    refine wl_nil ?_
    refine px_then ?_
    refine wc_seq ?_
    refine wc_region_q mo_ (by kernel_rfl) ?_
    refine wq_v rfl (val_field fo_55_0 (lk rfl)) ?_
    refine wq_v rfl (val_loadP (.head _) (lk rfl) ag_29 rfl) ?_
    refine wq_call gd_none rfl ci_41 (args1 (lk rfl)) (fun hG w1 hw => sokP_c (nth d0W rs k).id w1) ?_
    refine wq_v rfl (val_not (lk rfl)) ?_
    refine wq_v rfl (val_move (lk rfl)) ?_
    refine wq_val (gd_f rfl rfl rfl) rfl (val_move (lk rfl)) ?_
    refine wq_val (gd_f rfl rfl rfl) rfl (val_move (lk rfl)) ?_
    refine wq_val (gd_f rfl rfl rfl) rfl ((val_slice_all es_27 (lkg rfl) none (some (.tmp 21)) 0 k rfl ⟨_, lkg rfl⟩ (fun _ => Nat.zero_le _) (fun _ => by omega)).eq (show _ = Value.slice (if c = 0 then A else A.map (·.add (0 * 6))) (rs.take k).length (c - 0) by rw [List.length_take, Nat.min_eq_left (by omega)]; rfl)) ?_
    refine wq_val (gd_f rfl rfl rfl) rfl (val_field fo_55_0 (lk rfl)) ?_
    refine wq_val (gd_f rfl rfl rfl) rfl (val_loadP (.head _) (lkg rfl) ag_29 rfl) ?_
    refine wq_call (gd_f rfl rfl rfl) rfl ci_13 (args2 (lkg rfl) (lkg rfl)) (fun hG w1 hw => sFindW_c (rs.take k) _ _ _ _ (nth d0W rs k).id w1 (hst.hp hw rfl) (by omega)) ?_
    refine wq_val (gd_f rfl rfl rfl) rfl (val_geq (lkg rfl) lkc) ?_
    refine wq_v rfl (val_or (lk rfl) (lkg rfl)) ?_
    refine wq_v rfl (val_move (lk rfl)) ?_
    refine wq_val (gd_f rfl rfl rfl) rfl (val_field fo_55_1 (lk rfl)) ?_
    refine wq_val (gd_f rfl rfl rfl) rfl (val_load1 t1_3 (lkg rfl) (cell_own (.head _) fun _ => rfl)) ?_
    refine wq_call (gd_f rfl rfl rfl) rfl ci_42 (args3 (lkg rfl) lkc lkc) (fun hG w1 hw => l1In_c _ _ _ w1) ?_
    refine wq_val (gd_f rfl rfl rfl) rfl (val_not (lkg rfl)) ?_
    refine wq_v rfl (val_or (lk rfl) (lkg rfl)) ?_
    refine wq_v rfl (val_move (lk rfl)) ?_
    refine wq_val (gd_f rfl rfl rfl) rfl (val_field fo_55_2 (lk rfl)) ?_
    refine wq_val (gd_f rfl rfl rfl) rfl (val_load1 t1_3 (lkg rfl) (cell_own (.head _) fun _ => rfl)) ?_
    refine wq_call (gd_f rfl rfl rfl) rfl ci_42 (args3 (lkg rfl) lkc lkc) (fun hG w1 hw => l1In_c _ _ _ w1) ?_
    refine wq_val (gd_f rfl rfl rfl) rfl (val_not (lkg rfl)) ?_
    refine wq_v rfl (val_or (lk rfl) (lkg rfl)) ?_
    refine wq_v rfl (val_move (lk rfl)) ?_
    refine wq_val (gd_f rfl rfl rfl) rfl (val_field fo_55_3 (lk rfl)) ?_
    refine wq_val (gd_f rfl rfl rfl) rfl (val_loadP (.head _) (lkg rfl) ag_37 rfl) ?_
    refine wq_call (gd_f rfl rfl rfl) rfl ci_43 (args1 (lkg rfl)) (fun hG w1 hw => sokT_c (nth d0W rs k).tmp w1) ?_
    refine wq_val (gd_f rfl rfl rfl) rfl (val_not (lkg rfl)) ?_
    refine wq_v rfl (val_or (lk rfl) (lkg rfl)) ?_
    refine wq_v rfl (val_move (lk rfl)) ?_
    refine wq_val (gd_f rfl rfl rfl) rfl (val_move (lk rfl)) ?_
    refine wq_val (gd_f rfl rfl rfl) rfl (val_move (lk rfl)) ?_
    refine wq_val (gd_f rfl rfl rfl) rfl ((val_slice_all es_27 (lkg rfl) none (some (.tmp 48)) 0 k rfl ⟨_, lkg rfl⟩ (fun _ => Nat.zero_le _) (fun _ => by omega)).eq (show _ = Value.slice (if c = 0 then A else A.map (·.add (0 * 6))) (rs.take k).length (c - 0) by rw [List.length_take, Nat.min_eq_left (by omega)]; rfl)) ?_
    refine wq_val (gd_f rfl rfl rfl) rfl (val_field fo_55_1 (lk rfl)) ?_
    refine wq_val (gd_f rfl rfl rfl) rfl (val_load1 t1_3 (lkg rfl) (cell_own (.head _) fun _ => rfl)) ?_
    refine wq_val (gd_f rfl rfl rfl) rfl (val_field fo_55_3 (lk rfl)) ?_
    refine wq_val (gd_f rfl rfl rfl) rfl (val_loadP (.head _) (lkg rfl) ag_37 rfl) ?_
    refine wq_call (gd_f rfl rfl rfl) rfl ci_39 (args3 (lkg rfl) (lkg rfl) (lkg rfl)) (fun hG w1 hw => sTempW_c (rs.take k) _ _ _ _ (nth d0W rs k).net (nth d0W rs k).tmp w1 (hst.hp hw rfl) (by omega)) ?_
    refine wq_val (gd_f rfl rfl rfl) rfl (val_geq (lkg rfl) lkc) ?_
    refine wq_v rfl (val_or (lk rfl) (lkg rfl)) ?_
    refine wq_nil ?_
    refine px_then ?_
    refine wc_cond (lk rfl) (fun hc1 => ?_) (fun hc1 => ?_)
    · have hok : okWAt rs k = false := by rw [okWAt_eq]; exact congrArg (!·) hc1
      refine wc_seq ?_
      refine wc_region ?_
      refine wl_v rfl (val_assign lkc) ?_
      refine wl_nil ?_
      refine px_then ?_
      refine wc_ret ?_
      refine px_block_ret ?_
      refine px_then_ret ?_
      refine px_then_ret ?_
      refine px_block_ret ?_
      refine px_then_ret ?_
      refine fin1 rfl (res_tmp rfl) (fun w1 hw => ?_)
      exact ⟨by rw [okRegs, allAt_no hlt hok, Bool.and_false], hw.drop rfl⟩
    have hok : okWAt rs k = true := by rw [okWAt_eq]; exact congrArg (!·) hc1
    refine wc_skip ?_
    refine px_block ?_
    refine px_then ?_
    refine wc_region ?_
    refine wl_v rfl (val_move (lk rfl)) ?_
    refine wl_v rfl (val_inc (lk rfl) (by omega)) ?_
    refine wl_v rfl (val_assign (lk rfl)) ?_
    refine wl_nil ?_
    refine px_round0 (k + 1) (⟨by omega, fun i hi => by
        rcases Nat.lt_succ_iff_lt_or_eq.1 hi with h | rfl
        · exact ht i h
        · exact hok⟩) (by omega) (⟨rfl, rfl, rfl, rfl, trivial⟩) (fun _ h => h.dropN 1 rfl)
  have hge : k = rs.length := by have := of_decide_eq_false hc0; omega
  subst hge
  refine wc_exit ?_
  refine px_then_exit ?_
  refine px_then_exit ?_
  refine px_block_exit ?_
  refine px_then ?_
  refine wc_seq ?_
  refine wc_region ?_
  refine wl_v rfl (val_move (lk rfl)) ?_
  refine wl_v rfl (val_len es_27 (lk rfl)) ?_
  refine wl_v rfl (val_leq (lk rfl) lkc) ?_
  refine wl_v rfl (val_assign (lk rfl)) ?_
  refine wl_nil ?_
  refine px_then ?_
  refine wc_ret ?_
  refine fin1 rfl (res_tmp rfl) (fun w1 hw => ?_)
  exact ⟨by rw [okRegs, allAt_yes ht, Bool.and_true]; congr 2; rw [decide_eq_decide]; omega, hw.drop rfl⟩

theorem OkRegs_c (rs : List Reg) (A : Option Addr) (b o c : Nat) (w : World) (hs : Sl w A b o (flat encW rs)) (hl : rs.length ≤ 1048576) (hc : rs.length ≤ c) :
    Calls Try.prog 29 #[.slice A rs.length c] w fun e w' => e = .returned (.bool (okRegs rs)) ∧ HP w [] w' := by
  refine calls_entry [] _ Try.func29 rfl Try.ntmps29 (HP.refl w) (env1 rfl) ?_
  refine wc_seq ?_
  refine wc_region ?_
  refine wl_v rfl (val_assign lkc) ?_
  refine wl_nil ?_
  refine px_then ?_
  refine wc_seq ?_
  refine wc_seq ?_
  refine wc_region ?_
  refine wl_v rfl (val_move (lk rfl)) ?_
  refine wl_v rfl (val_len es_27 (lk rfl)) ?_
  refine wl_v rfl (val_gtr (lk rfl) lkc) ?_
  refine wl_nil ?_
  refine px_then ?_
  refine wc_cond (lk rfl) (fun hc0 => ?_) (fun hc0 => ?_)
  · refine wc_seq ?_
    refine wc_region ?_
    refine wl_v rfl (val_assign lkc) ?_
    refine wl_nil ?_
    refine px_then ?_
    refine wc_ret ?_
    refine px_then_ret ?_
    refine fin1 rfl (res_tmp rfl) (fun w1 hw => ?_)
    exact ⟨by have := of_decide_eq_true hc0; rw [okRegs, show decide (rs.length ≤ 8) = false by simp; omega]; rfl, hw.drop rfl⟩
  refine wc_skip ?_
  refine px_then ?_
  refine wc_seq ?_
  refine wc_seq ?_
  refine wc_region ?_
  refine wl_v rfl (val_move (lk rfl)) ?_
  refine wl_v rfl (val_len es_27 (lk rfl)) ?_
  refine wl_v rfl (val_move lkc) ?_
  refine wl_nil ?_
  refine px_then ?_
  refine wc_block ?_
  refine wc_trim (l' := [(0, _), (2, _), (10, _), (11, _), (12, _)]) ⟨rfl, rfl, rfl, rfl, rfl, trivial⟩ ?_
  refine wc_loop0 (X := Nat) (fun k => k ≤ rs.length ∧ ∀ i, i < k → okWAt rs i = true) (fun k => [(12, (true, .int .i64 (k : Nat)))]) (fun k => rs.length - k) 0 (⟨Nat.zero_le _, fun i h => absurd h (Nat.not_lt_zero i)⟩) ⟨rfl, rfl, rfl, rfl, rfl, rfl, trivial⟩ ?_
  rintro k ⟨hk, ht⟩
  refine wc_seq ?_
  refine wc_region ?_
  refine wl_v rfl (val_lss (lk rfl) (lk rfl)) ?_
  refine wl_nil ?_
  refine px_then ?_
  refine wc_seq ?_
  refine wc_cond (lk rfl) (fun hc1 => ?_) (fun hc1 => ?_)
  · have hlt : k < rs.length := by have := of_decide_eq_true hc1; omega
    have htl : (rs.take k).length = k := by rw [List.length_take]; omega
    have hst : Sl w (if c = 0 then A else A.map (·.add (0 * 6))) b o (flat encW (rs.take k)) := (hs.sub0.take (k * 6)).eq (flat_take encW_len rs k (by omega))
    refine wc_skip ?_
    refine px_then ?_
    refine wc_seq ?_
    refine wc_block ?_
    refine wc_seq ?_
    refine wc_region ?_
    refine wl_v rfl (val_move (lk rfl)) ?_
    refine wl_v rfl (val_index es_27 (lk rfl) (lk rfl) (fun hG => hs.hd encW_len (by decide) (i := k) (by first | omega | (have h9 := of_decide_eq_true hG; omega) | (simp at hG; omega))) (fun hG => by first | omega | (have h9 := of_decide_eq_true hG; omega) | (simp at hG; omega))) ?_
    refine wl_v rfl (val_loadN ag_55 (lk rfl) rfl (hs.rec_ rfl encW_len d0W (fun hG => by first | omega | (have h9 := of_decide_eq_true hG; omega) | (simp at hG; omega)))) ?_
    refine wl_alloc zc_55 rfl fun b1 => ?_
    refine wl_v rfl (val_assign (lk rfl)) ?_
    refine wl_storeB 0 rfl (lk rfl) (lk rfl) ag_55 rfl rfl ?_
    refine wl_nil ?_
    refine px_then ?_
    refine wc_seq ?_
    refine wc_seq ?_
    refine wc_region ?_
    refine wl_v rfl (val_field fo_55_0 (lk rfl)) ?_
    refine wl_v rfl (val_loadP (.head _) (lk rfl) ag_29 rfl) ?_
    refine wl_call gd_none rfl ci_44 (args1 (lk rfl)) (fun hG w1 hw => okP_c (nth d0W rs k).id w1) ?_
    refine wl_v rfl (val_not (lk rfl)) ?_
    refine wl_v rfl (val_move (lk rfl)) ?_
    refine wl_val (gd_f rfl rfl rfl) rfl (val_field fo_55_1 (lk rfl)) ?_
    refine wl_val (gd_f rfl rfl rfl) rfl (val_load1 t1_3 (lkg rfl) (cell_own (.head _) fun _ => rfl)) ?_
    refine wl_call (gd_f rfl rfl rfl) rfl ci_45 (args3 (lkg rfl) lkc lkc) (fun hG w1 hw => InRange_c _ _ _ w1) ?_
    refine wl_val (gd_f rfl rfl rfl) rfl (val_not (lkg rfl)) ?_
    refine wl_v rfl (val_or (lk rfl) (lkg rfl)) ?_
    refine wl_v rfl (val_move (lk rfl)) ?_
    refine wl_val (gd_f rfl rfl rfl) rfl (val_field fo_55_2 (lk rfl)) ?_
    refine wl_val (gd_f rfl rfl rfl) rfl (val_load1 t1_3 (lkg rfl) (cell_own (.head _) fun _ => rfl)) ?_
    refine wl_call (gd_f rfl rfl rfl) rfl ci_45 (args3 (lkg rfl) lkc lkc) (fun hG w1 hw => InRange_c _ _ _ w1) ?_
    refine wl_val (gd_f rfl rfl rfl) rfl (val_not (lkg rfl)) ?_
    refine wl_v rfl (val_or (lk rfl) (lkg rfl)) ?_
    refine wl_v rfl (val_move (lk rfl)) ?_
    refine wl_val (gd_f rfl rfl rfl) rfl (val_field fo_55_3 (lk rfl)) ?_
    refine wl_val (gd_f rfl rfl rfl) rfl (val_loadP (.head _) (lkg rfl) ag_37 rfl) ?_
    refine wl_call (gd_f rfl rfl rfl) rfl ci_46 (args1 (lkg rfl)) (fun hG w1 hw => okT_c (nth d0W rs k).tmp w1) ?_
    refine wl_val (gd_f rfl rfl rfl) rfl (val_not (lkg rfl)) ?_
    refine wl_v rfl (val_or (lk rfl) (lkg rfl)) ?_
    refine wl_nil ?_
    refine px_then ?_
    refine wc_cond (lk rfl) (fun hc2 => ?_) (fun hc2 => ?_)
    · have hok : okWAt rs k = false := by
        have h9 : okW (nth d0W rs k) = false := by unfold okW; revert hc2; cases okP (nth d0W rs k).id <;> cases inRange (nth d0W rs k).net 0 3 <;> cases inRange (nth d0W rs k).area 0 2 <;> simp
        rw [okWAt, h9]; rfl
      refine wc_seq ?_
      refine wc_region ?_
      refine wl_v rfl (val_assign lkc) ?_
      refine wl_nil ?_
      refine px_then ?_
      refine wc_ret ?_
      refine px_then_ret ?_
      refine px_block_ret ?_
      refine px_then_ret ?_
      refine px_then_ret ?_
      refine px_block_ret ?_
      refine px_then_ret ?_
      refine fin1 rfl (res_tmp rfl) (fun w1 hw => ?_)
      exact ⟨by rw [okRegs, allAt_no hlt hok, Bool.and_false], hw.drop rfl⟩
    have hkw : okW (nth d0W rs k) = true := by unfold okW; revert hc2; cases okP (nth d0W rs k).id <;> cases inRange (nth d0W rs k).net 0 3 <;> cases inRange (nth d0W rs k).area 0 2 <;> simp
    refine wc_skip ?_
    refine px_then ?_
    refine wc_seq ?_
    refine wc_region ?_
    refine wl_v rfl (val_move (lk rfl)) ?_
    refine wl_v rfl (val_move (lk rfl)) ?_
    refine wl_v rfl ((val_slice_all es_27 (lk rfl) none (some (.tmp 40)) 0 k rfl ⟨_, lk rfl⟩ (fun _ => Nat.zero_le _) (fun _ => by omega)).eq (show _ = Value.slice (if c = 0 then A else A.map (·.add (0 * 6))) (rs.take k).length (c - 0) by rw [List.length_take, Nat.min_eq_left (by omega)]; rfl)) ?_
    refine wl_v rfl (val_len es_27 (lk rfl)) ?_
    refine wl_v rfl (val_move lkc) ?_
    refine wl_nil ?_
    refine px_then ?_
    refine wc_block ?_
    refine wc_trim (l' := [(0, _), (2, _), (3, _), (4, _), (10, _), (11, _), (12, _), (13, _), (14, _), (15, _), (16, _), (17, _), (18, _), (19, _), (20, _), (21, _), (26, _), (27, _), (32, _), (33, _), (38, _), (39, _), (40, _), (41, _), (42, _), (43, _)]) ⟨rfl, rfl, rfl, rfl, rfl, rfl, rfl, rfl, rfl, rfl, rfl, rfl, rfl, rfl, rfl, rfl, rfl, rfl, rfl, rfl, rfl, rfl, rfl, rfl, rfl, rfl, trivial⟩ ?_
    refine wc_loop0 (X := Nat) (fun j => j ≤ (rs.take k).length ∧ ∀ i, i < j → clash (nth d0W (rs.take k) i) (nth d0W rs k) = false) (fun j => [(43, (true, .int .i64 (j : Nat)))]) (fun j => (rs.take k).length - j) 0 (⟨Nat.zero_le _, fun i h => absurd h (Nat.not_lt_zero i)⟩) ⟨rfl, rfl, rfl, rfl, rfl, rfl, rfl, rfl, rfl, rfl, rfl, rfl, rfl, rfl, rfl, rfl, rfl, rfl, rfl, rfl, rfl, rfl, rfl, rfl, rfl, rfl, rfl, trivial⟩ ?_
    rintro j ⟨hj, hjt⟩
    refine wc_seq ?_
    refine wc_region ?_
    refine wl_v rfl (val_lss (lk rfl) (lk rfl)) ?_
    refine wl_nil ?_
    refine px_then ?_
    refine wc_seq ?_
    refine wc_cond (lk rfl) (fun hc3 => ?_) (fun hc3 => ?_)
    · have hjl : j < (rs.take k).length := by have := of_decide_eq_true hc3; omega
      refine wc_skip ?_
      refine px_then ?_
      refine wc_seq ?_
      refine wc_block ?_
      refine wc_seq ?_
      refine wc_region ?_
      refine wl_v rfl (val_index es_27 (lk rfl) (lk rfl) (fun hG => hst.hd encW_len (by decide) (i := j) (by first | omega | (have h9 := of_decide_eq_true hG; omega) | (simp at hG; omega))) (fun hG => by first | omega | (have h9 := of_decide_eq_true hG; omega) | (simp at hG; omega))) ?_
      refine wl_v rfl (val_loadN ag_55 (lk rfl) rfl (hst.rec_ rfl encW_len d0W (fun hG => by first | omega | (have h9 := of_decide_eq_true hG; omega) | (simp at hG; omega)))) ?_
      refine wl_alloc zc_55 rfl fun b2 => ?_
      refine wl_storeB 0 rfl (lk rfl) (lk rfl) ag_55 rfl rfl ?_
      refine wl_nil ?_
      refine px_then ?_
      refine wc_seq ?_
      refine wc_region ?_
      refine wl_v rfl (val_field fo_55_0 (lk rfl)) ?_
      refine wl_v rfl (val_loadP (.head _) (lk rfl) ag_29 rfl) ?_
      refine wl_v rfl (val_field fo_55_0 (lk rfl)) ?_
      refine wl_v rfl (val_loadP (.tail _ (.head _)) (lk rfl) ag_29 rfl) ?_
      refine wl_v rfl (val_eqlK (ns := enc2 (nth d0W (rs.take k) j).id) (ms := enc2 (nth d0W rs k).id) eqk_29 ist_29 egt_29 (lk rfl) (lk rfl) rfl rfl) ?_
      refine wl_v rfl (val_move (lk rfl)) ?_
      refine wl_val (gd_f rfl rfl rfl) rfl (val_field fo_55_1 (lk rfl)) ?_
      refine wl_val (gd_f rfl rfl rfl) rfl (val_load1 t1_3 (lkg rfl) (cell_own (.head _) fun _ => rfl)) ?_
      refine wl_val (gd_f rfl rfl rfl) rfl (val_field fo_55_1 (lk rfl)) ?_
      refine wl_val (gd_f rfl rfl rfl) rfl (val_load1 t1_3 (lkg rfl) (cell_own (.tail _ (.head _)) fun _ => rfl)) ?_
      refine wl_val (gd_f rfl rfl rfl) rfl (val_eql (lkg rfl) (lkg rfl)) ?_
      refine wl_val (gd_f rfl rfl rfl) rfl (val_move (lkg rfl)) ?_
      refine wl_val (gd_gt rfl rfl rfl) rfl (val_field fo_55_3 (lk rfl)) ?_
      refine wl_val (gd_gt rfl rfl rfl) rfl (val_loadP (.head _) (lkg rfl) ag_37 rfl) ?_
      refine wl_val (gd_gt rfl rfl rfl) rfl (val_field fo_55_3 (lk rfl)) ?_
      refine wl_val (gd_gt rfl rfl rfl) rfl (val_loadP (.tail _ (.head _)) (lkg rfl) ag_37 rfl) ?_
      refine wl_val (gd_gt rfl rfl rfl) rfl (val_eqlK (ns := enc2 (nth d0W (rs.take k) j).tmp) (ms := enc2 (nth d0W rs k).tmp) eqk_37 ist_37 egt_37 (lkg rfl) (lkg rfl) rfl rfl) ?_
      refine wl_val (gd_f rfl rfl rfl) rfl (val_and (lkg rfl) (lkg rfl)) ?_
      refine wl_v rfl (val_or (lk rfl) (lkg rfl)) ?_
      refine wl_nil ?_
      refine px_then ?_
      refine wc_cond (lk rfl) (fun hc4 => ?_) (fun hc4 => ?_)
      · have hcl : clash (nth d0W (rs.take k) j) (nth d0W rs k) = true := by
          have h9 : ((enc2 (nth d0W (rs.take k) j).id == enc2 (nth d0W rs k).id) || (((nth d0W (rs.take k) j).net == (nth d0W rs k).net) && (enc2 (nth d0W (rs.take k) j).tmp == enc2 (nth d0W rs k).tmp))) = true := hc4
          rwa [enc2_eq, enc2_eq] at h9
        have hok : okWAt rs k = false := by
          rw [okWAt, show (rs.take k).any (fun s => clash s (nth d0W rs k)) = true from List.any_eq_true.2 ⟨nth d0W (rs.take k) j, by rw [nth_eq hjl]; exact List.getElem_mem _, hcl⟩]; simp
        refine wc_seq ?_
        refine wc_region ?_
        refine wl_v rfl (val_assign lkc) ?_
        refine wl_nil ?_
        refine px_then ?_
        refine wc_ret ?_
        refine px_block_ret ?_
        refine px_then_ret ?_
        refine px_then_ret ?_
        refine px_block_ret ?_
        refine px_block_ret ?_
        refine px_then_ret ?_
        refine px_then_ret ?_
        refine px_block_ret ?_
        refine px_then_ret ?_
        refine fin1 rfl (res_tmp rfl) (fun w1 hw => ?_)
        exact ⟨by rw [okRegs, allAt_no hlt hok, Bool.and_false], hw.drop rfl⟩
      have hcl : clash (nth d0W (rs.take k) j) (nth d0W rs k) = false := by
        have h9 : ((enc2 (nth d0W (rs.take k) j).id == enc2 (nth d0W rs k).id) || (((nth d0W (rs.take k) j).net == (nth d0W rs k).net) && (enc2 (nth d0W (rs.take k) j).tmp == enc2 (nth d0W rs k).tmp))) = false := hc4
        rwa [enc2_eq, enc2_eq] at h9
      refine wc_skip ?_
      refine px_block ?_
      refine px_then ?_
      refine wc_region ?_
      refine wl_v rfl (val_inc (lk rfl) (by omega)) ?_
      refine wl_v rfl (val_move (lk rfl)) ?_
      refine wl_nil ?_
      refine px_round0 (j + 1) (⟨by omega, fun i hi => by
          rcases Nat.lt_succ_iff_lt_or_eq.1 hi with h | rfl
          · exact hjt i h
          · exact hcl⟩) (by omega) (⟨rfl, rfl, rfl, rfl, rfl, rfl, rfl, rfl, rfl, rfl, rfl, rfl, rfl, rfl, rfl, rfl, rfl, rfl, rfl, rfl, rfl, rfl, rfl, rfl, rfl, rfl, rfl, trivial⟩) (fun _ h => h.dropN 1 rfl)
    have hok : okWAt rs k = true := by
      have hje : j = (rs.take k).length := by have := of_decide_eq_false hc3; omega
      rw [okWAt, hkw, Bool.true_and, Bool.not_eq_true', List.any_eq_false]
      intro s hsm
      obtain ⟨i, hi, rfl⟩ := List.getElem_of_mem hsm
      have := hjt i (by omega)
      rw [nth_eq hi] at this
      rw [this]; decide
    refine wc_exit ?_
    refine px_then_exit ?_
    refine px_then_exit ?_
    refine px_block_exit ?_
    refine px_block ?_
    refine px_then ?_
    refine wc_region ?_
    refine wl_v rfl (val_inc (lk rfl) (by omega)) ?_
    refine wl_v rfl (val_move (lk rfl)) ?_
    refine wl_nil ?_
    refine px_round0 (k + 1) (⟨by omega, fun i hi => by
        rcases Nat.lt_succ_iff_lt_or_eq.1 hi with h | rfl
        · exact ht i h
        · exact hok⟩) (by omega) (⟨rfl, rfl, rfl, rfl, rfl, rfl, trivial⟩) (fun _ h => h.dropN 1 rfl)
  have hge : k = rs.length := by have := of_decide_eq_false hc1; omega
  subst hge
  refine wc_exit ?_
  refine px_then_exit ?_
  refine px_then_exit ?_
  refine px_block_exit ?_
  refine px_then ?_
  refine wc_seq ?_
  refine wc_region ?_
  refine wl_v rfl (val_assign lkc) ?_
  refine wl_nil ?_
  refine px_then ?_
  refine wc_ret ?_
  refine fin1 rfl (res_tmp rfl) (fun w1 hw => ?_)
  exact ⟨by have := of_decide_eq_false hc0; rw [okRegs, allAt_yes ht, show decide (rs.length ≤ 8) = true by simp; omega]; rfl, hw.drop rfl⟩

theorem sCopyW_c (rs : List Reg) (A : Option Addr) (b o c : Nat) (w : World) (hs : Sl w A b o (flat encW rs)) (hl : rs.length ≤ 1048576) :
    Calls Try.prog 47 #[.slice A rs.length c] w fun e w' => ∃ x : Nat × Nat × List Value, ((flat encW (rs) ++ x.2.2).length = x.2.1 * 6 ∧ x.2.1 ≤ 9223372036854775807) ∧ e = .returned (.slice (some ⟨x.1, 0, none⟩) (rs).length x.2.1) ∧ HP w [⟨x.1, true, 55, flat encW (rs) ++ x.2.2⟩] w' := by
  refine calls_entry [] _ Try.func47 rfl Try.ntmps47 (HP.refl w) (env1 rfl) ?_
  refine wc_seq ?_
  refine wc_region ?_
  refine wl_v rfl (val_assign lkc) ?_
  refine wl_nil ?_
  refine px_then ?_
  refine wc_seq ?_
  refine wc_region ?_
  refine wl_bslice parts0 bsl_27_0_ rfl fun b1 => ?_
  refine wl_v rfl (val_move (lk rfl)) ?_
  refine wl_appendR (sp := []) encW_len (by decide) [] rs 0 es_27 zc_55 rfl eb_55 (lk rfl) rfl rfl (by decide) (lk rfl) (fun _ hw => hs.hp hw rfl) (by first | omega | (simp <;> omega)) (by first | omega | (simp <;> omega)) rfl fun a5 ac5 as5 hal5 ham5 => ?_
  refine wl_v rfl (val_assign (lk rfl)) ?_
  refine wl_nil ?_
  refine px_then ?_
  refine wc_ret ?_
  refine fin1 rfl (res_tmp rfl) (fun w1 hw => ?_)
  exact ⟨(a5, ac5, as5), ⟨hal5, ham5⟩, rfl, hw.mask [true] rfl⟩

theorem sDereg_c (rs : List Reg) (A : Option Addr) (b o c : Nat) (p : Int × Int) (net : Int) (w : World) (hs : Sl w A b o (flat encW rs)) (hl : rs.length ≤ 1048576) (hc : rs.length ≤ c) :
    Calls Try.prog 30 #[.slice A rs.length c, .agg (recV enc2 p).toArray, .int .i64 net] w fun e w' => ∃ x : Nat × Nat × List Value, ((flat encW (dereg rs p net) ++ x.2.2).length = x.2.1 * 6 ∧ x.2.1 ≤ 9223372036854775807) ∧ e = .returned (.slice (some ⟨x.1, 0, none⟩) (dereg rs p net).length x.2.1) ∧ HP w [⟨x.1, true, 55, flat encW (dereg rs p net) ++ x.2.2⟩] w' := by
  refine calls_entry [] _ Try.func30 rfl Try.ntmps30 (HP.refl w) (env3 rfl) ?_
  refine wc_seq ?_
  refine wc_region ?_
  refine wl_box (lk rfl) rfl fun b1 => ?_
  refine wl_v rfl (val_assign lkc) ?_
  refine wl_nil ?_
  refine px_then ?_
  refine wc_seq ?_
  refine wc_region ?_
  refine wl_v rfl (val_move (lk rfl)) ?_
  refine wl_v rfl (val_loadB (.head _) (lk rfl) ag_29) ?_
  refine wl_call gd_none rfl ci_13 (args2 (lk rfl) (lk rfl)) (fun hG w1 hw => sFindW_c rs _ _ _ _ p w1 (hs.hp hw rfl) hl) ?_
  refine wl_v rfl (val_assign (lk rfl)) ?_
  refine wl_nil ?_
  refine px_then ?_
  refine wc_seq ?_
  refine wc_seq ?_
  refine wc_region ?_
  refine wl_v rfl (val_move (lk rfl)) ?_
  refine wl_v rfl (val_lss (lk rfl) lkc) ?_
  refine wl_v rfl (val_move (lk rfl)) ?_
  refine wl_val (gd_f rfl rfl rfl) rfl (val_move (lk rfl)) ?_
  refine wl_val (gd_f rfl rfl rfl) rfl (val_move (lk rfl)) ?_
  refine wl_val (gd_f rfl rfl rfl) rfl (val_indexI es_27 (lkg rfl) (lkg rfl) (fun hG => hs.hd encW_len (by decide) (i := (findW rs p).toNat) (findW_lt (by simp at hG; omega)).1) (fun hG => ⟨by simp at hG; omega, (findW_lt (by simp at hG; omega)).2⟩)) ?_
  refine wl_val (gd_f rfl rfl rfl) rfl (val_field fo_55_1 (lkg rfl)) ?_
  refine wl_val (gd_f rfl rfl rfl) rfl (val_load1 t1_3 (lkg rfl) (cell_old rfl fun hG => hs.fld encW_len d0W (i := (findW rs p).toNat) (f := 2) (findW_lt (by simp at hG; omega)).1 (by decide) rfl)) ?_
  refine wl_val (gd_f rfl rfl rfl) rfl (val_move (lk rfl)) ?_
  refine wl_val (gd_f rfl rfl rfl) rfl (val_neq (lkg rfl) (lkg rfl)) ?_
  refine wl_v rfl (val_or (lk rfl) (lkg rfl)) ?_
  refine wl_nil ?_
  refine px_then ?_
  refine wc_cond (lk rfl) (fun hc0 => ?_) (fun hc0 => ?_)
  · have hgo : dereg rs p net = rs := if_pos hc0
    refine wc_seq ?_
    refine wc_region ?_
    refine wl_v rfl (val_move (lk rfl)) ?_
    refine wl_callx rfl ci_47 (args1 (lk rfl)) (fun w1 hw => sCopyW_c rs _ _ _ _ w1 (hs.hp hw rfl) (by omega)) (fun _ => rfl) ?_
    rintro ⟨gb23, gc23, gs23⟩ ⟨hgl23, hgc23⟩
    refine wl_v rfl (val_assign (lk rfl)) ?_
    refine wl_nil ?_
    refine px_then ?_
    refine wc_ret ?_
    refine px_then_ret ?_
    refine fin1 rfl (res_tmp rfl) (fun w1 hw => ?_)
    rw [hgo]
    exact ⟨(gb23, gc23, gs23), ⟨hgl23, hgc23⟩, rfl, hw.mask [true, false] rfl⟩
  have hgo : dereg rs p net = cutW rs (findW rs p).toNat := if_neg (by rw [show goneW rs p net = false from hc0]; decide)
  have h0 : 0 ≤ findW rs p := by
    have h9 : goneW rs p net = false := hc0
    rw [goneW, Bool.or_eq_false_iff] at h9
    have := of_decide_eq_false h9.1; omega
  obtain ⟨k, hkk⟩ : ∃ k : Nat, findW rs p = (k : Int) := ⟨(findW rs p).toNat, by omega⟩
  have hlt : k < rs.length := by have := findW_lt h0; omega
  have hkn : (findW rs p).toNat = k := by omega
  rw [hkn] at hgo
  rw [hkk]
  refine wc_skip ?_
  refine px_then ?_
  refine wc_seq ?_
  refine wc_region_a0 11 mo_ rfl ?_
  refine wa_take 1 rfl (by kernel_rfl) (by kernel_rfl) (by kernel_rfl) (by kernel_rfl) (fun _ h => h.dropN 0 rfl) gd_none rfl (val_move (lk rfl)) ?_
  refine wa_take 2 rfl (by kernel_rfl) (by kernel_rfl) (by kernel_rfl) (by kernel_rfl) (fun _ h => h.dropN 0 rfl) gd_none rfl (val_move (lk rfl)) ?_
  refine wa_take 3 rfl (by kernel_rfl) (by kernel_rfl) (by kernel_rfl) (by kernel_rfl) (fun _ h => h.dropN 0 rfl) gd_none rfl ((val_slice_all es_27 (lk rfl) none (some (.tmp 26)) 0 k rfl ⟨_, lk rfl⟩ (fun _ => Nat.zero_le _) (fun _ => by omega)).eq (show _ = Value.slice (if c = 0 then A else A.map (·.add (0 * 6))) (rs.take k).length (c - 0) by rw [List.length_take, Nat.min_eq_left (by omega)]; rfl)) ?_
  refine wa_take 5 rfl (by kernel_rfl) (by kernel_rfl) (by kernel_rfl) (by kernel_rfl) (fun _ h => h.dropN 0 rfl) gd_none rfl (val_move (lk rfl)) ?_
  refine wa_take 6 rfl (by kernel_rfl) (by kernel_rfl) (by kernel_rfl) (by kernel_rfl) (fun _ h => h.dropN 0 rfl) gd_none rfl (val_move (lk rfl)) ?_
  refine wa_take 7 rfl (by kernel_rfl) (by kernel_rfl) (by kernel_rfl) (by kernel_rfl) (fun _ h => h.dropN 0 rfl) gd_none rfl (val_inc (lk rfl) (by omega)) ?_
  refine wa_take 8 rfl (by kernel_rfl) (by kernel_rfl) (by kernel_rfl) (by kernel_rfl) (fun _ h => h.dropN 0 rfl) gd_none rfl ((val_slice_all es_27 (lk rfl) (some (.tmp 31)) none (k + 1) rs.length ⟨_, lk rfl⟩ rfl (fun _ => by omega) (fun _ => by omega)).eq (show _ = Value.slice (if c = k + 1 then A else A.map (·.add ((k + 1) * 6))) (rs.drop (k + 1)).length (c - (k + 1)) by rw [List.length_drop])) ?_
  refine wa_only 0 (by kernel_rfl) rfl ?_
  refine wl_bslice parts0 bsl_27_0_ rfl fun b2 => ?_
  refine wl_nil (px_qn (fun _ h => h.dropN 1 rfl) ?_)
  refine wa_only 4 (by kernel_rfl) rfl ?_
  refine wl_appendR (sp := []) encW_len (by decide) [] (rs.take k) 0 es_27 zc_55 rfl eb_55 (lk rfl) rfl rfl (by decide) (lk rfl) (fun _ hw => (((hs.hp hw rfl).sub0).take (k * 6)).eq (flat_take encW_len rs k (by omega))) (by first | omega | (simp <;> omega)) (by first | omega | (simp <;> omega)) rfl fun a28 ac28 as28 hal28 ham28 => ?_
  refine wl_nil (px_qn (fun _ h => h.dropN 1 rfl) ?_)
  refine wa_only 9 (by kernel_rfl) rfl ?_
  refine wl_appendR encW_len (by decide) ([] ++ (rs.take k)) (rs.drop (k + 1)) 0 es_27 zc_55 rfl eb_55 (lk rfl) rfl hal28 ham28 (lk rfl) (fun _ hw => ((hs.hp hw rfl).sub (by rw [flat_len encW_len]; omega)).eq (flat_drop encW_len rs (k + 1) (by omega))) (by first | omega | (simp <;> omega)) (by first | omega | (simp <;> omega)) rfl fun a33 ac33 as33 hal33 ham33 => ?_
  refine wl_nil (px_qn (fun _ h => h.dropN 1 rfl) ?_)
  refine wa_take 10 rfl (by kernel_rfl) (by kernel_rfl) (by kernel_rfl) (by kernel_rfl) (fun _ h => h.dropN 1 rfl) gd_none rfl (val_assign (lk rfl)) ?_
  refine wa_done (by kernel_rfl) ?_
  refine px_then ?_
  refine wc_ret ?_
  refine fin1 rfl (res_tmp rfl) (fun w1 hw => ?_)
  rw [hgo]
  exact ⟨(a33, ac33, as33), ⟨hal33, ham33⟩, rfl, hw.mask [true, false] rfl⟩

theorem Dereg_c (rs : List Reg) (A : Option Addr) (b o c : Nat) (p : Int × Int) (net : Int) (w : World) (hs : Sl w A b o (flat encW rs)) (hl : rs.length ≤ 1048576) (hc : rs.length ≤ c) :
    Calls Try.prog 31 #[.slice A rs.length c, .agg (recV enc2 p).toArray, .int .i64 net] w fun e w' => ∃ x : Nat × Nat × List Value, ((flat encW (dereg rs p net) ++ x.2.2).length = x.2.1 * 6 ∧ x.2.1 ≤ 9223372036854775807) ∧ e = .returned (.slice (some ⟨x.1, 0, none⟩) (dereg rs p net).length x.2.1) ∧ HP w [⟨x.1, true, 55, flat encW (dereg rs p net) ++ x.2.2⟩] w' := by
  refine calls_entry [] _ Try.func31 rfl Try.ntmps31 (HP.refl w) (env3 rfl) ?_
  refine wc_seq ?_
  refine wc_region ?_
  refine wl_box (lk rfl) rfl fun b1 => ?_
  refine wl_v rfl (val_assign lkc) ?_
  refine wl_nil ?_
  refine px_then ?_
  refine wc_seq ?_
  refine wc_region ?_
  refine wl_v rfl (val_move (lk rfl)) ?_
  refine wl_v rfl (val_loadB (.head _) (lk rfl) ag_29) ?_
  refine wl_call gd_none rfl ci_16 (args2 (lk rfl) (lk rfl)) (fun hG w1 hw => FindW_c rs _ _ _ _ p w1 (hs.hp hw rfl) hl) ?_
  refine wl_v rfl (val_assign (lk rfl)) ?_
  refine wl_nil ?_
  refine px_then ?_
  refine wc_seq ?_
  refine wc_seq ?_
  refine wc_region ?_
  refine wl_v rfl (val_move (lk rfl)) ?_
  refine wl_v rfl (val_lss (lk rfl) lkc) ?_
  refine wl_v rfl (val_move (lk rfl)) ?_
  refine wl_val (gd_f rfl rfl rfl) rfl (val_move (lk rfl)) ?_
  refine wl_val (gd_f rfl rfl rfl) rfl (val_move (lk rfl)) ?_
  refine wl_val (gd_f rfl rfl rfl) rfl (val_indexI es_27 (lkg rfl) (lkg rfl) (fun hG => hs.hd encW_len (by decide) (i := (findW rs p).toNat) (findW_lt (by simp at hG; omega)).1) (fun hG => ⟨by simp at hG; omega, (findW_lt (by simp at hG; omega)).2⟩)) ?_
  refine wl_val (gd_f rfl rfl rfl) rfl (val_field fo_55_1 (lkg rfl)) ?_
  refine wl_val (gd_f rfl rfl rfl) rfl (val_load1 t1_3 (lkg rfl) (cell_old rfl fun hG => hs.fld encW_len d0W (i := (findW rs p).toNat) (f := 2) (findW_lt (by simp at hG; omega)).1 (by decide) rfl)) ?_
  refine wl_val (gd_f rfl rfl rfl) rfl (val_move (lk rfl)) ?_
  refine wl_val (gd_f rfl rfl rfl) rfl (val_neq (lkg rfl) (lkg rfl)) ?_
  refine wl_v rfl (val_or (lk rfl) (lkg rfl)) ?_
  refine wl_nil ?_
  refine px_then ?_
  refine wc_cond (lk rfl) (fun hc0 => ?_) (fun hc0 => ?_)
  · have hgo : dereg rs p net = rs := if_pos hc0
    refine wc_seq ?_
    refine wc_region ?_
    refine wl_v rfl (val_move (lk rfl)) ?_
    refine wl_callx rfl ci_48 (args1 (lk rfl)) (fun w1 hw => copyRegistration_c rs _ _ _ _ w1 (hs.hp hw rfl) (by omega)) (fun _ => rfl) ?_
    rintro ⟨gb24, gc24, gs24⟩ ⟨hgl24, hgc24⟩
    refine wl_v rfl (val_assign (lk rfl)) ?_
    refine wl_nil ?_
    refine px_then ?_
    refine wc_ret ?_
    refine px_then_ret ?_
    refine fin1 rfl (res_tmp rfl) (fun w1 hw => ?_)
    rw [hgo]
    exact ⟨(gb24, gc24, gs24), ⟨hgl24, hgc24⟩, rfl, hw.mask [true, false] rfl⟩
  have hgo : dereg rs p net = cutW rs (findW rs p).toNat := if_neg (by rw [show goneW rs p net = false from hc0]; decide)
  have h0 : 0 ≤ findW rs p := by
    have h9 : goneW rs p net = false := hc0
    rw [goneW, Bool.or_eq_false_iff] at h9
    have := of_decide_eq_false h9.1; omega
  obtain ⟨k, hkk⟩ : ∃ k : Nat, findW rs p = (k : Int) := ⟨(findW rs p).toNat, by omega⟩
  have hlt : k < rs.length := by have := findW_lt h0; omega
  have hkn : (findW rs p).toNat = k := by omega
  rw [hkn] at hgo
  rw [hkk]
  refine wc_skip ?_
  refine px_then ?_
  refine wc_seq ?_
  refine wc_region ?_
  refine wl_v rfl (val_move (lk rfl)) ?_
  refine wl_v rfl (val_move (lk rfl)) ?_
  refine wl_v rfl ((val_slice_all es_27 (lk rfl) none (some (.tmp 26)) 0 k rfl ⟨_, lk rfl⟩ (fun _ => Nat.zero_le _) (fun _ => by omega)).eq (show _ = Value.slice (if c = 0 then A else A.map (·.add (0 * 6))) (rs.take k).length (c - 0) by rw [List.length_take, Nat.min_eq_left (by omega)]; rfl)) ?_
  refine wl_callx rfl ci_48 (args1 (lk rfl)) (fun w1 hw => copyRegistration_c (rs.take k) _ _ _ _ w1 ((((hs.hp hw rfl).sub0).take (k * 6)).eq (flat_take encW_len rs k (by omega))) (by rw [List.length_take]; omega)) (fun _ => rfl) ?_
  rintro ⟨gb28, gc28, gs28⟩ ⟨hgl28, hgc28⟩
  refine wl_v rfl (val_assign (lk rfl)) ?_
  refine wl_nil ?_
  refine px_then ?_
  refine wc_seq ?_
  refine wc_region ?_
  refine wl_v rfl (val_move (lk rfl)) ?_
  refine wl_v rfl (val_move (lk rfl)) ?_
  refine wl_v rfl (val_move (lk rfl)) ?_
  refine wl_v rfl (val_inc (lk rfl) (by omega)) ?_
  refine wl_v rfl ((val_slice_all es_27 (lk rfl) (some (.tmp 32)) none (k + 1) rs.length ⟨_, lk rfl⟩ rfl (fun _ => by omega) (fun _ => by omega)).eq (show _ = Value.slice (if c = k + 1 then A else A.map (·.add ((k + 1) * 6))) (rs.drop (k + 1)).length (c - (k + 1)) by rw [List.length_drop])) ?_
  refine wl_appendR encW_len (by decide) (rs.take k) (rs.drop (k + 1)) 0 es_27 zc_55 rfl eb_55 (lk rfl) rfl hgl28 hgc28 (lk rfl) (fun _ hw => ((hs.hp hw rfl).sub (by rw [flat_len encW_len]; omega)).eq (flat_drop encW_len rs (k + 1) (by omega))) (by first | omega | (simp <;> omega)) (by first | omega | (simp <;> omega)) rfl fun a34 ac34 as34 hal34 ham34 => ?_
  refine wl_v rfl (val_assign (lk rfl)) ?_
  refine wl_nil ?_
  refine px_then ?_
  refine wc_ret ?_
  refine fin1 rfl (res_tmp rfl) (fun w1 hw => ?_)
  rw [hgo]
  exact ⟨(a34, ac34, as34), ⟨hal34, ham34⟩, rfl, hw.mask [true, false] rfl⟩

end Go.Proofs.Ytmjpiihopgckpaa
